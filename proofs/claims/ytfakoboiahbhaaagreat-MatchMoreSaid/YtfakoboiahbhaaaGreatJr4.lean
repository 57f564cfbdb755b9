
import Derived.Test.YtfakoboiahbhaaaGreatJr1
import Derived.Test.YtfakoboiahbhaaaGreatJr3
import Derived.Test.YtfakoboiahbhaaaGreatProg
import Derived.KernelRfl
import Derived.IntWalk
import Derived.ProofKit
import Derived.Deep.Slices
import Derived.ChangeStays
import Derived.Below
import Derived.WalkKit
import Derived.Sort.AssemblyPlain
set_option linter.unusedSimpArgs false
set_option linter.unusedVariables false
set_option linter.unusedSectionVars false

open Array renaming length_toList→tE,size_setIfInBounds→ux
open Bool renaming and_eq_true→sx,and_self→uH,and_true→tS,false_eq_true→tM
open Classical renaming choose_spec→vA
open List renaming all_cons→tr,all_eq_true→sC,all_nil→tY,append_assoc→sj,append_nil→sN,drop_eq_getElem_cons→sT,drop_zero→sO,ext_getElem?→tO,filter_append→t_,flatMap_append→vD,flatMap_cons→tZ,getElem?_append→sc,getElem?_append_left→sA,getElem?_append_right→sL,getElem?_drop→sX,getElem?_eq_getElem→sq,getElem?_eq_none→tB,getElem?_eq_some_iff→sa,getElem?_map→su,getElem?_set_ne→si,getElem?_set_self→sg,getElem?_take→sV,getElem_mem→sE,length_append→sm,length_drop→tV,length_map→sZ,length_pos_iff→ug,length_take→sR,map_append→sY,map_congr_left→tR,map_cons→se,map_id→u_,map_map→ud,map_set→uN,map_take→uo,mem_append_left→ve,mem_append_right→v8,mem_cons→sk,mem_cons_of_mem→tX,mem_cons_self→ur,mem_flatMap→vb,mem_iff_getElem?→tF,mem_map→ss,mem_range→sJ,range_succ→vg,set_getElem_self→uI,set_set→sQ,take_of_length_le→tQ,take_succ_cons→vd,take_succ_eq_append_getElem→tx,take_zero→tf
open Nat renaming add_comm→te,add_mul→tp,ble_eq_true_of_le→ue,eq_of_beq_eq_true→ta,le_refl→sb,le_trans→sI,lt_or_ge→sU,min_eq_left→tq,mul_one→tD,one_mul→vC,zero_add→sP,zero_le→sr,zero_mul→vo
open Option renaming bind_some→r_,map_eq_some_iff→rZ,map_some→sd
namespace Go.Proofs.YtfakoboiahbhaaaGreat.Ab
open Go
abbrev pX:b5:={ takes:=[true] }
abbrev pZ:b5:={ takes:=[true,true] }
def p1 (l:List Nat):List b5:=l.map fun n=>match n with
 | 0=>{}
 | 1=>pX
 | _=>pZ
def abP:c8:={ ops:=[[{ mode:=3 }]] }
def abQ:c8:={ ops:=[[],[],[],[],[],[{},{ mode:=3 },{},{ mode:=3 },pZ,pX,pX,pX,pZ,{ takes:=[false,true] },pX,pX,pX,pZ,{ takes:=[false,true] },pX,pX,pX,pZ,{ takes:=[false,true] },pX,{},{},{ mode:=3 },{},{},{ mode:=3 },pZ,{ takes:=[false,true] },pX,{ mode:=3 },{ takes:=[false,true] },pX]] }
def ab8:c8:={ ops:=[[],[],[],[],[],[],[{},{},pX,{ mode:=3 },{ mode:=3 },pX,{},{},pX,pX],[],[],[],[],[],[],[{},{},{},pZ,pX,{ mode:=3 },{ mode:=3 },pX,{},{},pX,pX]] }
def MN:c8:={ ops:=[[pX],[{},{ mode:=3 },pX],[{ mode:=3 },pX],[{},{ mode:=3 },pX,{},pX,pX,pX],[{},{ mode:=3 },pX,{},pX,pX,pX],[{},{ mode:=3 },pX,{},pX,pX,pX],[{},{ mode:=3 },pX,{},pX,pX,pX],[pX,pX,pX,pX,pX,{ takes:=[true,false,true] },pX,{},pX,{},pX,pX,pZ,{ takes:=[true,false,true] },pX,{},pX,{},pX,pX,pZ,{ takes:=[true,false,true] }],[],(p1 [0,1,1,1]),[pX,pX,pX,pX,pX,pZ,pX,pX,pX,pX,pZ,pX,{ mode:=3 },pZ,pX],(p1 [0,1,1,1,0,1,1,2,1,1,1,1,0,1,1,2,1,1]),[{},pX,{},pZ,pX,{},pX,{},pZ,{ takes:=[true,false,true] },pX,{},pX,pX,pX,pX,pZ,{ takes:=[true,false,true] },pX,{},pX,pX,pX,pX,pZ,{ takes:=[true,false,true] }],[],[{},pX,{},{},{ mode:=3 },pX,pX,{},pX,{ mode:=3 },pX,{ takes:=[true,false,true] },pZ],[],[pX,pX],[{ mode:=3 },pX],[{},{},{ mode:=3 },pX,{},{},pX,pX,pX,pX],[pX,pX,pX,{ mode:=3 },{ mode:=3 },pX,{},{},pX,pX],[pX,pX,pX,pX,pX,{ takes:=[true,false,true] }],[],[pX],[pX,pX,pZ,pX,{ mode:=3 },pZ,pX],[{},{},pZ,{},pX,pX,pZ,pX,pX,pX,pZ,pX,pX,pX,pZ,pZ,pX,{ mode:=3 },pZ,pX]] }
def ace:c8:={ ops:=[[],[],[],[],[],[],[],[],[],[],[],[{},pX,{},{},pX,pZ,pZ,{},{ takes:=[false,true] }],[],[],[],[],[{},{},{},pZ,pX,{ mode:=3 },pX,{},{},{},pX,pX,pX],[{},{},{},pX,{},pX,pZ,pZ,pX,{ mode:=3 },pX,{},{},{},pX,pX,pX],[],[],(p1 [1,0,0,2,1,2,0,1,1,1,1,2,1])] }
def QA:c8:={ ops:=[[pX],[{},{ mode:=3 },pX,pX,{},pX,pX,pX,{ takes:=[true,false,true] }],[{ mode:=3 },pX],[pX,pX,{},pX,pZ,pX,pX,{},pX,pZ,pZ,{},{ takes:=[false,true] }],[{},pX,{},{},pX,pZ,{},pX,pZ,pZ,{},{ takes:=[false,true] }],[{},{ mode:=3 },pX,{},pX,pX,pX],[{},{ mode:=3 },pX,{},pX,pX,pX],[{},{ mode:=3 },pX,{},pX,pX,pX],[pX,{ mode:=3 },pX,{},pX,pX,pX],[pX,pX,pX,pX,pX,{ takes:=[true,false,true] },pX,{},{},pX,pZ,{ takes:=[true,false,true] },pX,pX,pX,pX,pZ,{ takes:=[true,false,true] },pX,pX,pX,{ takes:=[true,false,true] },pX,pX,pX,{ takes:=[true,false,true] },pX,{},pX,{},pX,pX,pZ,{ takes:=[true,false,true] },pX,{},pX,{},pX,pX,pZ,{ takes:=[true,false,true] }],[],[],(p1 [0,0,1,2]),(p1 [1,1,1]),(p1 [0,0,1,2,0,0,1,2,2,1]),[{},{},{ mode:=3 },{},{},{ mode:=3 },pZ,pX,pZ],[],[{ mode:=3 },pX]],h9:=[(0,(Ex false [3,1,3,1,5,1,1,1,1,1,119]))] }
def abo:c8:={ ops:=[[],[],[],[],[],[],[],[],[],[],[],[],[],[],[],[],[],[],[],[],[],[],[],[],[{},pX,{ mode:=3 },{ mode:=3 },pX,{},{},{},pX,pX,pX]] }
def abt:c8:={ two:=[(12,8)],ops:=[[{ takes:=[true],mode:=1 }],[{},{ mode:=3 },pX,pX,{},pX,pX,pX,{ takes:=[true,false,true] }],[{ mode:=3 },pX],[{},{ mode:=3 },pX,{},pX,pX,pX],[{},{ mode:=3 },pX,{},pX,pX,pX],(p1 [1,1,0,1,1,2,1]),[],[],(p1 [0,0,1,1,2]),(p1 [1,1,1]),(p1 [0,0,2]),(p1 [1,0,1,2,1]),[{},pX,{ mode:=3 },{},{ takes:=[true],mode:=3 },{},pZ,{ takes:=[true],mode:=3 },{},{},{ takes:=[false,true] },{ takes:=[false,true] }],[{},{},pX,{},pX,{ mode:=3 },pX,{},pX,pX,pX],[pX,{ mode:=3 },pX,{},pX,pX,pX],[{},{ mode:=3 },pX,{},pX,pX,pX],[pX,pX,pX,pX,pX,pX,{},pX,pX,pZ,{ takes:=[true,false,true] },pX,pX,pX,{ takes:=[true,false,true] },pX,pX,pX,{ takes:=[true,false,true] }],[],(p1 [0,1,0,1,2]),[pX,pX,pX,pX,pX,{ mode:=3 },pX,pZ,pX,{ mode:=3 },pZ,pX],[pX,pX,{ mode:=3 },{},pX,pZ,pX,{},pX,pX,{},pX,pZ,{ takes:=[true,false,true] }],[],[pX,pX],[pX,pX,{ mode:=3 },pX,{},{},pX,pX,pX,pX],[pX,pX,pX,pX,pX,pX,pX,pZ,pZ,pX,{ mode:=3 },pZ,pX],[pX,{ mode:=3 },pX],[pX,pX,pX,pX,pZ,pX,{},{},pX,pZ,pX,pX,{ takes:=[true,false,true] },pX,pX,pX,pX,pZ,pX,pX,{ takes:=[true,false,true] },pX,{ mode:=3 },pZ,pX]],h9:=[(0,(Ex false [2,1,2,2,1,4,175]))] }
def abA:c8:={ ops:=[[],[],[],(p1 [1,1,0,1,2,1,1,0,1,2,1,1]),[],[],[],[],[],[{},pX,pZ,pX,{},pX,pX,pX,pZ,{ takes:=[false,false,true] },pX,{},pX,{},pX,pZ,{ takes:=[false,false,true] },pX,{},pX,{},{},pZ,pX,{},{},pZ,pX,pZ,pZ,{ takes:=[false,false,true] }],[],[],[],[],[],[],[],[],[],[],[],[{},{},{},pZ,pX,{ mode:=3 },pX]] }
def abE:c8:={ ops:=[[],[],[],[{},pX,{},pX,pZ,{},{},pX,pZ,pZ,{},{ takes:=[false,true] }],[],[],[],[{},{ takes:=[true],mode:=1 },{},pX,{},pZ,pX,pX,{},pX,pZ,{},pX,{},pZ,pX,pX,{},pX,pZ,pZ,pX,pZ,{},pZ]] }
def abM:c8:={ ops:=[[],[{ mode:=3 },{ mode:=3 },{ mode:=3 },{},{},{},{ takes:=[false,true] },{ takes:=[false,true] },{ takes:=[false,true] }],[{},{},{ mode:=3 },{ mode:=3 },pX,{},{},{},pX,pX,pX],[{},{},{ mode:=3 },{ mode:=3 },pX],[{},{ mode:=3 },pX,{},pX,pX,pX],[{},{ mode:=3 },pX,{},pX,pX,pX],[{},{ mode:=3 },pX,{},pX,pX,pX],[{},{ mode:=3 },pX,{},pX,pX,pX],[{},{ mode:=3 },pX,{},pX,pX,pX],[{},{ mode:=3 },pX,{},pX,pX,pX],[{},{ mode:=3 },pX,{},pX,pX,pX],[{},{ mode:=3 },pX,{},pX,pX,pX],[pX,{ mode:=3 },pX,{},pX,pX,pX],[pX,{ mode:=3 },pX,{},pX,pX,pX],[pX,pX,pX,pX,pX,pZ,pX,pX,pX,pZ,pX,pX,pX,pZ,pX,pX,pX,pZ,pX,pX,{},{ mode:=3 },{ mode:=3 },pZ,pX,pX,pX,pZ,pX,pX,{},{ mode:=3 },pX,{ mode:=3 },{ mode:=3 },pZ,pX,pX,pX,pZ,pX,pX,pX,pZ,pX,pX,pX,pZ,pX,pX,pX,pZ,pX,pX,pX,pZ,pX,pX,pX,pZ,pX,pX,pX,pZ,pX,pX,pX,pZ,pX,pX,pX,pZ,pX,pX,{},{ mode:=3 },{ mode:=3 },pZ,pX,pX,pX,pZ,pX,pX,{},{ mode:=3 },{ mode:=3 },pZ,pX,pX,pX,pZ,pX,pX,pX,pX,pZ,pX,pX,pX,pZ,pX,pX,{},{ mode:=3 },{ mode:=3 },pZ,pX,pX,{ mode:=3 },pX,pZ,pX,{ mode:=3 },pZ,pX]] }
def UQ:c8:={ ops:=[[pX],(p1 [1,1,1,1,1])] }
def abO:c8:={ ops:=[[],[{ mode:=3 },{ mode:=3 },{ mode:=3 },{},{},{},{ takes:=[false,true] },{ takes:=[false,true] },{ takes:=[false,true] }],[{},{},{ mode:=3 },{ mode:=3 },pX,{},{},{},pX,pX,pX],[{},{},{ mode:=3 },{ mode:=3 },pX,{},{},{},pX,pX,pX],[{},{},{ mode:=3 },{ mode:=3 },pX,{},{},{},pX,pX,pX],[{},{},{ mode:=3 },{ mode:=3 },pX,{},{},{},pX,pX,pX],[{},{ mode:=3 },pX,{},{},pX,pX,pX,pX],[{},{},{ mode:=3 },{},{ mode:=3 },pZ,{ mode:=3 },{ mode:=3 },pX,{},{},pX,pX],[{},{},{ mode:=3 },pX,{ mode:=3 },{ mode:=3 },pX,{},{},pX,pX],[{},{},{ mode:=3 },{},{ mode:=3 },pZ,{ mode:=3 },{ mode:=3 },pX,{},{},pX,pX],[{},{},{ mode:=3 },{ mode:=3 },{},{},{ mode:=3 },{ mode:=3 },pX,pX],[{},{ mode:=3 },pX,{},pX,pX,pX],[{},{ mode:=3 },pX,{},pX,pX,pX],[{},{ mode:=3 },pX,{},pX,pX,pX],[{},{ mode:=3 },pX,{},pX,pX,pX],[{},{ mode:=3 },pX,{},pX,pX,pX],[{},{ mode:=3 },pX,{},pX,pX,pX],[{},{ mode:=3 },pX,{},pX,pX,pX],[{},{ mode:=3 },pX,{},pX,pX,pX],[{},{ mode:=3 },pX,{},pX,pX,pX],[{},{ mode:=3 },pX,{},pX,pX,pX],[{},{ mode:=3 },pX,{},pX,pX,pX],[pX,{ mode:=3 },pX,{},pX,pX,pX],[{},{ mode:=3 },pX,{},pX,pX,pX],[pX,pX,pX,pX,pX,{ takes:=[true,false,true] },pX,pX,pX,{ takes:=[true,false,true] },pX,pX,pX,{ takes:=[true,false,true] },pX,pX,pX,{ takes:=[true,false,true] },pX,pX,pX,{ takes:=[true,false,true] },pX,pX,pX,{ takes:=[true,false,true] },pX,pX,pX,{ takes:=[true,false,true] },pX,pX,pX,{ takes:=[true,false,true] },pX,pX,pX,{ takes:=[true,false,true] },pX,pX,pX,{ takes:=[true,false,true] },pX,pX,pX,{ takes:=[true,false,true] },pX,pX,pX,{ takes:=[true,false,true] },pX,pX,pX,{ takes:=[true,false,true] },pX,pX,pX,{ takes:=[true,false,true] },pX,pX,pX,{ takes:=[true,false,true] },pX,pX,pX,{ takes:=[true,false,true] },pX,pX,pX,{ takes:=[true,false,true] },pX,pX,pX,{ takes:=[true,false,true] },pX,pX,pX,{ takes:=[true,false,true] },pX,pX,pX,{ takes:=[true,false,true] },pX,pX,pX,{ takes:=[true,false,true] },pX,pX,pX,{ takes:=[true,false,true] }],[],[pX,pX,pX,pX,pX,{ takes:=[true,false,true] },pX,pX,pX,{ takes:=[true,false,true] },pX,pX,{},{ mode:=3 },{ mode:=3 },pX,{ takes:=[true,false,true] },pX,pX,{},{ mode:=3 },{},{ mode:=3 },{},{ mode:=3 },{ takes:=[true,true,true] },{ mode:=3 },{ mode:=3 },pX,{ takes:=[true,false,true] },pX,pX,pX,{ takes:=[true,false,true] },pX,pX,{},{ mode:=3 },{ mode:=3 },pX,{ takes:=[true,false,true] },pX,pX,pX,{ takes:=[true,false,true] },pX,pX,{},{ mode:=3 },{ mode:=3 },pX,{ takes:=[true,false,true] },pX,pX,{},{ mode:=3 },{ mode:=3 },pX,{ takes:=[true,false,true] }],[],[pX,pX,{ mode:=3 },pX,{},pX,pX,pX],[pX,pX,pX,pX,pX,pZ,pX,pX,pX,{ mode:=3 },pX,pZ,pX]] }
def ML:c8:={ ops:=[[pX],[{},{ mode:=3 },pX,{},pX,pX,pX],[pX,pX],(p1 [0,1,1]),(p1 [1,0,0,1]),(p1 [0,1,1,1]),[],[{},pX,{ mode:=6 },pX],[],[],[{},pX],[],[],[{},pX,{},{ takes:=[false,true] }],[{},pX,{ takes:=[false,true] },pX,pX],[],[pX,pX,{ takes:=[false,true] },pX],[pX,pX],[{},{},pX,pX,{ mode:=3 },pX,{},pX,pX,pX],[{},pX],[pX],[],[{},pX,{},{ takes:=[false,true] }],[{},pX,{ mode:=3 },pX,{},pX,pX,pX],(p1 [1,1,2]),[],[pX,pX],[pX,pX],(p1 [1,1,1,1])],h9:=[(1,(Ex false [1,1,5,1,2,1,28,3,40])),(3,(Ex false [7,1,5,1,1,1,47,3,16]))] }
def MM:c8:={ ops:=[[pX],[{},{ mode:=3 },pX],[pX,{ mode:=3 },{},{},pX],(p1 [0,1,1]),[{},pX],[],[],(p1 [0,0,2]),(p1 [1,1,1]),[{},{},pZ,pX,pX,pX,pX,{},{},pZ,pX,pX,{},pX,pX,pZ,{ takes:=[false,false,true] },pX,{},{},pZ,pX,pX,pX,{ takes:=[false,false,true] },pX,{},{},pZ,pX,pX,pX,{ takes:=[false,false,true] }],[],[],(p1 [0,0,2]),(p1 [1,1,1]),[{},{},pZ,{},{},pZ,pX,pX,{ mode:=3 }],[],[],(p1 [0,0,2]),(p1 [1,1,1]),[{},{},{},pX,pZ,pX,{ mode:=3 },{},{},{},pZ,pX,{ mode:=3 },pZ],[],[{},{},pX,pX,{ mode:=3 },{},{},pX,pX,pZ,pX,{ mode:=3 },pX,pX]],h9:=[(0,(Ex false [1,2,4,2,94])),(2,(Ex false [1,2,4,1,1,1,93])),(4,(Ex false [1,2,4,1,2,1,92]))] }
def UR:c8:={ ops:=[[pX],[{},pX],[{},pX,pX,{ mode:=3 },pX,pX,{},pX,pX,pX,{ takes:=[true,false,true] },pX],[],[pX,pX,pX,{ mode:=6 },pX],[],[]] }
def QE:c8:={ ops:=[[pX],[{},pX,pX,pX,{},pX,pX,{ takes:=[true,false,true] },pX,{},pX,pX,pX,{ takes:=[true,false,true] }],[],[],(p1 [0,0,1,1,2]),(p1 [1,1,1]),[{},pX,{},pZ,pX,{},{ takes:=[false,true] }],[{},pX,pX,pX,{},pX,{},pX,pZ,{ takes:=[true,false,true] },pX,{},pX,pX,{ takes:=[true,false,true] },pX,pX,pX,{},pX,pZ,{ takes:=[true,false,true] }],[],[]],h9:=[(0,(Ex false [1,1,1,1,49]))] }
def US:c8:={ ops:=[[pX],[{},{},{ mode:=3 },pX,{},{},pX,pX,pX,pX],(p1 [0,1,1]),[pX,pX],(p1 [1,1,1,1,1,2,1]),[],(p1 [1,1,2,1]),[],[]] }
def UT:c8:={ ops:=[[pX],[{},{},{ mode:=3 },pX,{},{},pX,pX,pX,pX],[{},pX],[pX,pX],(p1 [1,1,1,1,1,2]),[],(p1 [1,1,2]),[],[]] }
def QF:c8:={ ops:=[[],(p1 [0,1,1]),[],(p1 [0,0,1,2]),(p1 [1,1,1]),(p1 [1,0,0,2,1,1,2,1]),(p1 [1,1,1])],h9:=[(0,(Ex false [0,1,2,2,17]))] }
def UU:c8:={ ops:=[[pX],[{},{ mode:=3 },pX],[{},pX],(p1 [1,0,1]),[],[],[],(p1 [0,1,1]),[{},{},{ mode:=3 },pX,{},{},pX,pX,pX,pX],[{},pX],(p1 [1,0,1]),[pX],[],[{},pX,{},{ takes:=[false,true] }],[{},{},pX,{},pX,{ takes:=[true,true,true] },pX,pX,pX,pZ,pX],[pX,pX],[pX,pX],[{ takes:=[true],mode:=1 },{ takes:=[false,true],mode:=1 }],[{},{},{ takes:=[false,true],mode:=1 },pX,{},pX,pZ,pX],[],(p1 [1,1,1,1,1,2,1]),[],(p1 [1,1,1])],h9:=[(0,(Ex false [1,2,4,1,12,3,50])),(2,(Ex false [1,2,4,1,12,3,13,3,34]))] }
def N6:c8:={ ops:=[[pX],[{},{ mode:=3 },pX],[pX,{ mode:=3 },{},pX],[],[],(p1 [0,0,1,2]),(p1 [1,1,1]),[{},{},{},pZ,pX,{ mode:=3 },pX,{},{},{},pX,pX,pX],[{},pX],(p1 [1,0,1]),(p1 [1,0,0,2,1,2,1]),[],(p1 [0,0,1,2]),(p1 [1,1,1]),[{},{},pZ,{},{},pZ,pX,pX,{ mode:=3 }],[],(p1 [1,1,1,1,1,2]),[],(p1 [1,1,1])],h9:=[(0,(Ex false [1,2,3,2,57])),(2,(Ex false [1,2,3,1,4,1,53]))] }
def UW:c8:={ ops:=[[pX],[pX,{ mode:=3 },pX,{},pX,pX,pX],[{},pX],(p1 [1,0,1]),[{},pX,{ mode:=3 },{ mode:=3 },pX],[{},pX,{ takes:=[false,true] },pX],(p1 [0,1,2]),[pX,pX]] }
def UX:c8:={ ops:=[[pX],[pX,{ mode:=3 },pX,{},pX,pX,pX],[{},pX],(p1 [1,0,1]),[{},pX,{ mode:=3 },{ mode:=3 },pX]] }
def abR:c8:={ ops:=[[pX],[{},{ mode:=3 },pX,{},pX,pX,pX],[{},pX],(p1 [1,0,1]),[],[pX,pX],[],[{},{},pX,{},pX,{ takes:=[false,true] }],[{},{},pX,{},{ mode:=3 },{},{ takes:=[false,true] }],(p1 [1,1,2,1,1]),(p1 [1,1,1,2,1]),[pX,pX],[pX,pX]],h9:=[(0,(Ex false [4,1,1,1,12,3,20]))] }
def abS:c8:={ ops:=[[],(p1 [0,1,0,1,2]),[],[],(p1 [0,0,1,2]),(p1 [1,1,1]),(p1 [0,0,2,1,0,0,2,1,2]),[],[]],h9:=[(0,(Ex false [0,2,3,1,20]))] }
def abT:c8:={ ops:=[[],(p1 [0,1,0,1,2]),[],[],(p1 [0,0,1,2]),(p1 [1,1,1]),[{},{},pZ,pX,{},{},pZ,pX,{ mode:=3 },pX],[],[]],h9:=[(0,(Ex false [0,2,3,1,21]))] }
def UY:c8:={ ops:=[[pX],[pX,{ mode:=3 },pX,{},pX,pX,pX],[{},pX],(p1 [1,0,1]),[pX,{ mode:=3 },pX,pX]] }
def UZ:c8:={ ops:=[[pX],[{},{ mode:=3 },pX,{},pX,pX,pX],(p1 [0,1,1]),(p1 [1,0,1]),(p1 [1,1,1,1,1]),[],[{},{ mode:=3 },pX,pX,pX],[],[pX,{ mode:=3 },pX]] }
def abU:c8:={ ops:=[[],[],[],[],[],[],[],[],[],[],[],[],[],[],[],[],[],[],[],[{},pX,pX,pX,{},pX,pX,{},{},{},{ mode:=3 },pZ,{ takes:=[false,false,true] },{ takes:=[false,true] },pX,{},{},{},pX,{ mode:=3 },{},{},{ mode:=3 },{ mode:=3 },{ takes:=[false,true] }],[],[],[],[pX,{},pX,pX,pX,pZ,pX,{},pX,pX,pX,{ mode:=3 },{},{},pX,pX,{ mode:=3 },pX,pX,pX]] }
def abV:c8:={ ops:=[[pX],[{},{ mode:=3 },pX,{},pX,pX,pX],[pX,pX],[],[pX,{ mode:=3 },{},pX,pX,pX]] }
def U0:c8:={ ops:=[[pX],[pX,{ mode:=3 },pX,{},pX,pX,pX],[{},pX],(p1 [1,0,1]),[pX,{ mode:=3 },pX]] }
def U1:c8:={ ops:=[[pX],[{},{ mode:=3 },pX,{},pX,pX,pX],[{},pX],(p1 [1,0,1]),[pX,{},{ mode:=3 },pX],[],[pX,pX]] }
def abW:c8:={ ops:=[[],(p1 [0,1,0,1,2]),[],[],(p1 [0,0,1,2]),(p1 [1,1,1]),(p1 [0,0,2,1,0,0,2,1,2]),[],[]],h9:=[(0,(Ex false [0,2,3,1,20]))] }
def abX:c8:={ ops:=[[pX,pX],[{},{ mode:=3 },pX,{},pX,{},{ takes:=[false,true] },pX],(p1 [0,1,1]),(p1 [1,0,1]),[pX,pX,pX,{},{},pZ,{ mode:=3 },pX,pX,{},{},pZ,{ takes:=[true,false,true] },pX],[],[{},{},{ mode:=3 },{},{ takes:=[false,true] }],[{},{ takes:=[false,true] },pX,pX],[],[{ mode:=1 }],(p1 [0,0,2]),[{},{},{ mode:=3 }],[{},{ takes:=[false,true] }],[pX,{},{ mode:=3 },pX,{},pX,pX,pX],[{},{ takes:=[false,true] },pX,{},{ takes:=[false,true] },pX,pX,pZ],[{ mode:=1 },pX,pX,pZ,pX,pZ,pZ],[pX,pX]],h9:=[(1,(Ex false [2,1,1,1,3,1,1,2,60]))] }
def U2:c8:={ ops:=[[pX],[{},{ mode:=3 },pX,pX,pX,{ mode:=3 },pX,pZ,pX]] }
def U3:c8:={ ops:=[[pX],[{},{ mode:=3 },pX,{},pX,pX,pX],[{},{ mode:=3 },pX,{},pX,pX,pX],[pX,pX,pX,pX,pX,{ takes:=[true,false,true] },pX,{},{ mode:=3 },{ takes:=[true,false,true] }],[pX,pX],[{},{},{ mode:=3 },pX,{},pX,pX,pX],[pX,pX,{ mode:=3 },pX,{},pX,pX,pX],(p1 [0,1,1,1,1,1,2,1,1,0,2,2,1,1,1,2,2,1,1])] }
def N7:c8:={ ops:=[[pX],[{},{ mode:=3 },pX,{},pX,pX,pX],[pX,pX,pX,{},pX,{},pX,pX,pZ,{ takes:=[true,false,true] }],[],[pX,pX,pX,{ takes:=[false,true] },pX],[],[],(p1 [0,0,1,2]),(p1 [1,1,1]),[],(p1 [0,0,0,2,1,1,2]),(p1 [1,1,1]),(p1 [0,0,2,1,0,2,1,1]),[{},pX,pX,{},{},pX,pZ,{ takes:=[true,false,true] },pX,{},{},pZ,pX,pX,{ takes:=[true,false,true] }],[],(p1 [0,1,2,1]),(p1 [1,1,1]),(p1 [0,0,2,1,1,1]),[],(p1 [1,1,1,1,2,1,1])],h9:=[(0,(Ex false [4,1,1,3,74])),(2,(Ex false [4,1,1,4,73]))] }
def abY:c8:={ ops:=[[],[],[],[],[],[],[],[],[],[],[],[],[],[],[{},{},{ mode:=3 },pX,pX,{},pX,pX,pX,{},{},{},pX,pX,pZ,pX,{ mode:=3 },{},{},{ mode:=3 },pZ,{ takes:=[false,false,true] },{ takes:=[false,true] }],[],[],[],[],[],[],(p1 [1,0,0,2,1,1,2,1,0,0,2,1,1,2,1,1])] }
def abZ:c8:={ ops:=[[],[],[],[],[],[{},{ takes:=[true],mode:=1 },{},pX,{},{},pZ,pX,pZ,pX,pX,pZ,{},pZ]] }
def U4:c8:={ ops:=[[],[pX,pX]] }
def QG:c8:={ ops:=[[],[],(p1 [0,0,1,2]),(p1 [1,1,1]),(p1 [0,0,2,1,0,2]),[],[]],h9:=[(0,(Ex false [0,2,3,1,12]))] }
def ab0:c8:={ ops:=[[],[],[],[],[],[pX,{},{},pZ,pX,pX,{},{},pZ,pX,pX,{ takes:=[false,true] },pZ,pX,pZ,pX]] }
def ab1:c8:={ ops:=[[],[],[],[],[],[],[],[],[],[],[],[],(p1 [0,1,0,2,1,1,0,1,0,2,1,1,1,1]),[],(p1 [0,0,2,1,0,0,2,1,2,1])] }
def U5:c8:={ ops:=[[pX,pX],(p1 [0,1,1]),(p1 [1,1,1,1,2,1,1,1]),(p1 [1,1,1,1,2,1,1,1])] }
def ab2:c8:={ ops:=[[],[{},{ mode:=3 },{ takes:=[false,true] }]] }
def ab3:c8:={ ops:=[[],[{},{ mode:=3 },{ takes:=[false,true] }]] }
def ab4:c8:={ ops:=[[],[{},{ mode:=3 },{ takes:=[false,true] }]] }
def ab5:c8:={ ops:=[[],[],[],(p1 [0,1,0,1,2]),(p1 [1,1,1]),(p1 [1,0,0,2,1,0,0,1,2,1,2,1,2,1]),[pX,pX]],h9:=[(0,(Ex false [0,1,2,2,21]))] }
def ab6:c8:={ ops:=[[],[pX,pX]] }
def ab7:c8:={ ops:=[[],[pX,pX]] }
def U6:c8:={ ops:=[[pX],[{},{ mode:=3 },pX],[{},pX],(p1 [1,0,1]),[pX,pX,{ takes:=[true],mode:=1 },pX]] }
def U7:c8:={ ops:=[[pX],[pX,pX,pX,pX,{},pX,pX,{ mode:=3 },pX,pX,pX,pX,pX,{ mode:=3 },pX,{ takes:=[true,false,true] },pX]] }
def U8:c8:={ ops:=[[pX,pX],[pX,pZ,{ mode:=6 },pX,pX]] }
def U9:c8:={ ops:=[[],[pX,pX,{ mode:=6 },pX,pX]] }
def U_:c8:={ ops:=[[pX],[pX,pX,pX,pX,pX,{},pX,pZ,pX,{},{ takes:=[false,true] }],(p1 [1,1,1]),(p1 [0,1,0,1,1,1]),(p1 [0,1,0,1,1,1])] }
def QH:c8:={ ops:=[[],[],(p1 [0,0,1,2]),(p1 [1,1,1]),(p1 [0,0,2,1,1,0,2]),[],[]],h9:=[(0,(Ex false [0,2,3,1,13]))] }
def U':c8:={ ops:=[[pX,pX],(p1 [0,1,1]),(p1 [1,1,1,1,2,1,1,1]),(p1 [1,1,1,1,2,1,1,1])] }
def Va:c8:={ ops:=[[pX],[pX,pX,pX,{},pX,pX,pX,pZ,{ mode:=3 },pX,pX]] }
def Vb:c8:={ ops:=[[],[pX,pX,{ mode:=6 },pX,pX]] }
def Vc:c8:={ ops:=[(p1 [0,1,1]),[pX,{},pX,pX,{ mode:=3 },{ takes:=[false,true,false,true,true],mode:=1 }]] }
def QI:c8:={ ops:=[[],[{ takes:=[true],mode:=1 },pX,pX],[pX,pX],[],(p1 [0,0,1,2]),(p1 [1,1,1]),(p1 [0,0,2,1,0,0,1,2,1,2]),(p1 [0,0,2,1]),[],(p1 [0,0,1,2]),(p1 [1,1,1]),(p1 [0,0,2,1,0,0,1,2,1,2]),(p1 [0,0,0,0,2,1,2,2]),(p1 [1,1,1]),(p1 [0,0,2,1]),(p1 [1,1,2,1]),[pX,pX]],h9:=[(0,(Ex false [0,1,2,1,57])),(2,(Ex false [0,1,2,3,55]))] }
def Vd:c8:={ ops:=[[],[{},pX],[],(p1 [0,1,2,1])] }
def N8:c8:={ ops:=[[],[],[pX],[],(p1 [0,1,1]),[{},pX,pX,pX,pX,{},pZ,pX,pX,{},pX,pX,{ takes:=[false,true] },pZ],[{},pX,pX,pX,pX,pX,pZ,pX,pX,{},pX,pX,{ takes:=[false,true] },pZ],[pX,pX],(p1 [0,0,2]),[],[],[pX],[],(p1 [0,0,1,1]),(p1 [1,1,1]),[{},{},pX,pX,pX,{ takes:=[true,true,true] },pX,pX,pZ,pX],[pX,pX],[pX,pX]],h9:=[(0,(Ex false [0,1,4,1,5,3,52])),(2,(Ex false [8,1,38,2,17]))] }
def QJ:c8:={ ops:=[[],[],(p1 [1,1,1,1,1,1]),[],[{},pX],(p1 [1,1,1,2,1]),[pX,pX],[pX,pX]],h9:=[(0,(Ex false [3,1,6,2,8]))] }
def Lx:c8:={ ops:=[[pX],[{ takes:=[true],mode:=1 }],[pX],[],[{},pX,{},{ takes:=[false,true] }],[{},pX],(p1 [1,1,1]),[],[],(p1 [0,1,1]),[{},{},{ mode:=6 }],(p1 [1,1,2,1]),[pX,pX],[{ takes:=[true],mode:=1 },{ takes:=[false,true],mode:=1 }],[pX,pX,{ takes:=[false,true,true],mode:=1 },{ takes:=[true],mode:=2 },pX,{ takes:=[true,true],mode:=1 },pX],[pX,pX],[{},{ takes:=[false,true],mode:=1 }],[{ takes:=[true],mode:=2 },pX]],h9:=[(0,(Ex false [2,1,2,1,6,3,31])),(2,(Ex false [2,1,2,1,2,2,2,3,6,3,22]))] }
def ab9:c8:={ ops:=[[],[],[],[],[],[],[],[],[],[],[],(p1 [0,0,2,1,0,0,1,0,2,1,1,2,1,2])] }
def ab_:c8:={ ops:=[[pX,pX],[],[],[],[{},pX],[pX,{ takes:=[false,true] },pX],[pX,pX],[{},{ takes:=[false,true] },pX],[pX,pX,{},{ takes:=[false,true] }],(p1 [0,1,1]),[{},pX,pX,{},{ takes:=[false,true] }],[{ mode:=1 },pX,{ takes:=[false,true] }],[{},{},{ mode:=3 }],[{},{ takes:=[false,true] }],[pX,{},{ mode:=3 },pX,{},pX,pX,pX],[pX,pX,pX,pZ,pX,{},{ takes:=[false,true] },pX,pX,pZ],[{},pX,{ takes:=[false,true] },pX,pX,pZ,pZ],[{ mode:=1 },pX,pX,pZ,pZ],[pX,{ takes:=[false,true] }]],h9:=[(0,(Ex false [1,1,1,1,1,3,6,1,48])),(2,(Ex false [3,1,1,3,1,1,53]))] }
def aca:c8:={ ops:=[[],[],(p1 [0,0,1,0,2,1,1,2,1,0,0,1,0,2,1,1,2,1,2,1])] }
def J2:c8:={ ops:=[[],[],[{},{},{ mode:=3 },{ mode:=3 }],[],[{},pX,{},{ takes:=[false,true] }],[{},pX,pX,pX,pX,pX,pX,{},{ takes:=[false,true] }],[],[],(p1 [0,1,1]),[{},pX,{ takes:=[true],mode:=1 },{},pX,pX,pX,pX,pX,pZ,pX,pX,pZ,{},pX,pZ],[pX,pX],[{},{},{ mode:=3 },pX],[],(p1 [0,1,0,1,2]),(p1 [1,1,1]),[{},pX,{ takes:=[true],mode:=1 },{},{},pZ,pX,{},{},pX,pZ,pX,pZ,pX,pZ,{},pX,pZ],[{ mode:=7 },pX],[{},{},{ mode:=6 },pX],[{},pX],[{},{},pX,pZ,{},{},pX,pZ,pZ,{ mode:=3 },pX],[],[pX],[],[{},pX,{},{ takes:=[false,true] }],(p1 [0,1,0,1,2]),(p1 [1,0,0,1,2,1,0,1,2,1,2,1]),(p1 [1,1,1,2,1]),[pX,pX],(p1 [0,1,1]),(p1 [1,1,1,2,1]),[pX,pX],[pX,pX]],h9:=[(0,(Ex false [0,1,2,1,15,3,111])),(2,(Ex false [0,1,2,1,1,2,12,3,10,3,98])),(4,(Ex false [0,1,2,1,1,2,2,2,8,3,111])),(6,(Ex false [0,1,2,1,1,1,7,1,5,3,75,3,33]))] }
def acb:c8:={ ops:=[[],[],[],[],[],[],[pX,{},{},{},pZ,pX,{ mode:=3 },{ mode:=3 },pX,pX,{ takes:=[false,true] },pZ,pX]] }
def acd:c8:={ ops:=[[],[],[{},{ mode:=3 },{ takes:=[true],mode:=1 }],[],(p1 [0,1,1]),[],[],[],[{},pX,{},{ takes:=[false,true] }],[{},{},{},{ takes:=[false,true,true],mode:=1 },{ takes:=[true],mode:=2 }],[],[],[{},pX],[{},pX,pZ,{},{ takes:=[false,true] }],[{},{},{ mode:=3 },pX,{},pX,pX,pX],[{},pX,pX,pX,{},pZ,{ takes:=[true,false,true] },pX,{},{},pX,{ mode:=3 },pZ],(p1 [1,1,1,2,1]),[pX,pX],[pX,pX],(p1 [0,1,1]),[pX,pX],[pX,{ mode:=3 },{},{ takes:=[false,true] }],(p1 [1,0,1,2,1]),[pX,{},{ takes:=[false,true,true],mode:=1 },pX],[{},pX,{ mode:=3 },pX,{},pX,pX],[pX,pX]],h9:=[(0,(Ex false [0,1,2,3,75])),(2,(Ex false [0,1,2,4,13,3,58])),(4,(Ex false [0,1,2,4,1,2,10,3,7,1,50]))] }
def Ve:c8:={ ops:=[[pX,pX],[pZ,pX]] }
def acf:c8:={ ops:=[[],[],[],[],[],[],[],[],[],[],[],[{},{},{},pZ,{},pX,pZ,{},{},{ mode:=3 },{},{},pX,{ mode:=3 },pX,{},{},pX,pX]] }
def acg:c8:={ ops:=[[],[pX,pX,{},{ takes:=[false,true] }],[],(p1 [0,1,0,1,2]),(p1 [1,1,1]),[{},{ takes:=[true],mode:=1 },{},{},pZ,pX,{},{},pX,pZ,pX,pZ,pX,pZ,{},pZ],[pX,{ takes:=[false,true] }]],h9:=[(0,(Ex false [1,1,2,3,25]))] }
def Vf:c8:={ ops:=[[],[pX,pX,{ mode:=6 },pX,pX]] }
def Vg:c8:={ ops:=[[],[{},pX,pZ,pX,pX,pX,pZ,{ takes:=[true,false,true] },pX]] }
def QL:c8:={ ops:=[[],[{},pX],[],[{},pX],[{},{},{},pZ,pX,{ mode:=6 }],[pX,pX],[pX,pX],[]],h9:=[(0,(Ex false [0,2,5,2,10]))] }
def QM:c8:={ ops:=[[],[{},pX],[],[{},pX],[{},{},{},pZ,pX,{ mode:=6 }],[pX,pX],[pX,pX],[]],h9:=[(0,(Ex false [0,2,5,2,10]))] }
def Vh:c8:={ ops:=[[],[],(p1 [0,0,2,1]),[{},pX],[pX,pX,pX,{ takes:=[false,true,true,true],mode:=1 }],[{},pX],[pX,pX,pX,{ takes:=[false,true,true,true],mode:=1 }],[{},pX],[{},{},{},{ takes:=[false,true,true,true],mode:=1 }],(p1 [1,1,1]),[{},{},{},{ takes:=[false,true,true,true],mode:=1 },pX,{},pX,pX,pX],[{},pX],[{},{},{},{ takes:=[false,true,true,true],mode:=1 }],(p1 [0,1,1,0,2,2,1]),[],(p1 [0,1,0,2,1,1,1,2]),[{},{},{},{ takes:=[false,true,true,true],mode:=1 }],[{},pX,pX,{},{},pX,pZ,pX,{},{},pZ,pX,{ mode:=3 },pX,{ takes:=[false,true] }],[{},pX,{},pX,{ takes:=[false,true,true,true,true],mode:=1 },pX],[pX,pX],[{},{},{},pX,{ takes:=[false,true,true,true,true],mode:=1 },pX,{},pX,pX,pX],[pX,pX],(p1 [0,0,2,0,0,2,1,1]),(p1 [1,1,1]),(p1 [0,0,2]),(p1 [1,1,2,1]),[{},pX,{},{},{ takes:=[false,true,true,true,true],mode:=1 }],(p1 [1,1,1]),(p1 [1,1,2,1]),[{},{},pX,pX,{},{ takes:=[false,true,true,true,true],mode:=1 }],[pX,pX]],h9:=[(0,(Ex false [0,4,4,2,124]))] }
def ach:c8:={ ops:=[[],[pX,pX,{ mode:=3 },pX],[pX,{ mode:=3 },pX]] }
def Vi:c8:={ ops:=[[],[pX,pZ,{ mode:=6 },pX]] }
def Vj:c8:={ ops:=[[],[pX,pX,pX,{ mode:=3 },pX]] }
def Ux:c8:={ bad:=true,ops:=[[],[{},pX,pX,pX,pX,pX,pZ,pX,{},pX,pX,pX,{ takes:=[true],mode:=3 },pX,pZ,{ takes:=[true],mode:=3 },{},{},{ takes:=[false,true] },{ takes:=[false,true] }],[{},pX,{},pX,pZ,pX,{},pX,{},pX,pZ,{ takes:=[true,false,true] },pX,{},pX,{},pX,pZ,{ takes:=[true,false,true] },pX,pX,pX,pX,pX,pZ,{ takes:=[true,false,true] },pX]] }
def abm:c8:={ ops:=[[],(p1 [0,0,0,1]),[{},pX],[pX,{ takes:=[true],mode:=4 }],(p1 [0,1,1]),(p1 [0,0,1,2]),(p1 [1,1,1]),(p1 [0,0,2,1,1]),(p1 [0,0,0,1]),(p1 [0,0,1,2,2]),(p1 [1,1,1]),(p1 [0,0,2,1]),[pX,pX,pZ,{ takes:=[true],mode:=4 }]],h9:=[(0,(Ex false [0,2,3,2,35]))] }
def Uy:c8:={ ops:=[(p1 [0,1,1]),[pX,{},pX,pX,{ mode:=3 },pX,{ takes:=[false,true,false,true,true,true],mode:=1 }]] }
def Uz:c8:={ ops:=[[],(p1 [1,1,1,1,1,1,2,1])] }
def KB:c8:={ ops:=[[pX],[{},{},{ takes:=[false,true] }],(p1 [0,1,1,1,1,1]),[],[{},pX],(p1 [0,0,1,0,0,1,2,2]),[pX,pX],[{ takes:=[true],mode:=1 }],[{},pX,pX,pX,pX,pX,pX,pX,{},{ takes:=[false,true] }],(p1 [0,1,1]),[{},{},{ mode:=3 }],[{},{ takes:=[false,true] }],(p1 [0,0,2,1]),(p1 [0,0,2]),[pX,{},pX,{},pX,{ takes:=[false,true] },pZ,pZ],[{ mode:=5 },{},pX,{ takes:=[true,true],mode:=1 },pZ],[pX,pX,{ mode:=3 },pX,{},pX,pZ],(p1 [0,1,1]),[{},{},pX,pX,pZ,pX,{},{ takes:=[false,true] }],[{ mode:=5 },{},pX,pX,pZ,{ takes:=[false,true] }],[pX,{},pX,{ takes:=[true,true],mode:=1 },pX],[{},pX,{ mode:=3 },pX,{},pX,{ takes:=[false,true] }],[{},{ takes:=[false,true],mode:=1 }],[{ takes:=[true],mode:=2 },pX]],h9:=[(0,(Ex false [1,1,1,1,13,2,73])),(2,(Ex false [1,1,1,1,1,4,83]))] }
def UA:c8:={ ops:=[[pX],(p1 [1,1,1,1,2,1])] }
def N5:c8:={ ops:=[[],[],[],[],(p1 [0,1,1]),(p1 [1,1,1,2,1]),[{},pX],[{},pX],[pX,pX],(p1 [1,0,1]),[pX],[],(p1 [0,1,1]),(p1 [1,1,2,1]),[pX,pX],[pX,pX]],h9:=[(0,(Ex false [0,1,2,1,5,3,24])),(2,(Ex false [6,1,18,3,8]))] }
def UB:c8:={ ops:=[[],[{ takes:=[true],mode:=1 },{},{ mode:=6 },pX],[{},pX],[pX,pX],(p1 [0,1,1]),(p1 [0,0,1,2]),(p1 [1,1,1]),(p1 [0,0,2,1,1]),[{},{},{ mode:=6 },pX],(p1 [0,0,1,2,2]),(p1 [1,1,1]),(p1 [0,0,2,1]),(p1 [1,1,2,1])],h9:=[(0,(Ex false [0,2,3,2,35]))] }
def UC:c8:={ ops:=[[],(p1 [1,1,2,1])] }
def UD:c8:={ ops:=[[pX,pX],[{},pX],[{},{},{ mode:=3 },pX],(p1 [0,1,1,1]),[],[{},pX,pX,pX,{},pX,pX,pX,pX,pX,{ mode:=3 },pX,pZ,{ takes:=[true,false,true] },pX,{},pX,{ mode:=6 },pX,{ takes:=[true,false,true] },pX],[],[pX,pX,{ mode:=3 },pX,pX,pX]] }
def QB:c8:={ ops:=[[],[{},pX,pX,{},{ takes:=[false,true] }],[pX,pX],[],[{},pX,{},{ takes:=[false,true] }],[{},{},{},{ mode:=6 }],[pX,{ takes:=[false,true] }],[pX,pX],[pX,{ takes:=[false,true] }]],h9:=[(0,(Ex false [1,1,2,2,6,3,10]))] }
def UE:c8:={ ops:=[[pX,pX],(p1 [1,1,1,1,2,1])] }
def UF:c8:={ ops:=[[],(p1 [1,1,1,2,1])] }
def UG:c8:={ ops:=[(p1 [0,1,1,1,1,1]),[],[{},pX],[],[],[{},pX],[{},pX,pZ,{},{ takes:=[false,true] }],[{},{},{ mode:=3 },pX,{},pX,pX,pX],[pX,{},pZ,pX,{},pX,{ takes:=[true,true],mode:=1 },pX,pZ],[pX,pX],[pX,pX]],h9:=[(0,(Ex false [0,3,11,2,25])),(2,(Ex false [0,3,1,1,9,2,2,1,22]))] }
def QC:c8:={ ops:=[[],[{},pX],[],[{},pX],[{},{},{},pZ,pX,{ mode:=6 }],[pX,pX],[pX,pX],[]],h9:=[(0,(Ex false [0,2,5,2,10]))] }
def UH:c8:={ ops:=[(p1 [0,1,1]),(p1 [0,0,2]),(p1 [1,1,1]),[{},pX],[{},{},pZ,pX,{},{},pZ,pX,{},{},pX,pZ,pX,{ mode:=3 },{ takes:=[false,true] }],(p1 [1,1,1]),(p1 [0,0,0,0,1,0,0,1,2,1,0,0,2,1,2,2,2,2])],h9:=[(0,(Ex false [0,3,3,1,42])),(2,(Ex false [0,3,3,2,41]))] }
def abp:c8:={ ops:=[[],[],[],[],[],[],[],[],[],[],(p1 [0,0,0,0,0,2,0,0,0,2,2,1,0,0,2,1,2,2,2,2])] }
def abq:c8:={ ops:=[[],[],[],[],[],[],[],[],[],[],(p1 [0,0,0,0,0,2,0,0,0,2,2,1,0,0,2,1,2,2,2,2])] }
def abr:c8:={ ops:=[[],[],[],(p1 [0,0,0,0,0,0,2,1,0,0,2,1,2,2,2,2])] }
def abu:c8:={ ops:=[[],[],[],[],[],[{},{},pZ,pX,{},{},pZ,pX,{},{},pX,pZ,pX,{ mode:=3 },pX,{ takes:=[false,true] }],[],[],[],[],[],(p1 [0,0,0,0,1,0,0,1,2,1,0,0,2,1,2,2,2,2]),[],[],[],[],[{},{},pZ,pX,{},{},pX,pZ,pX,{ mode:=3 },pX],(p1 [0,0,0,0,1,0,0,1,2,1,0,0,2,1,2,2,2,2]),[],[],[],[],[{},{},pZ,pX,{},{},pX,pZ,pX,{ mode:=3 },pX],(p1 [0,0,0,0,1,0,0,1,2,1,0,0,2,1,2,2,2,2])] }
def UI:c8:={ ops:=[[],[{},{ mode:=3 },pX,{},{ mode:=3 },pX,pZ,pX,pX,pX,pZ,{ takes:=[true,false,true] },pX]] }
def abv:c8:={ ops:=[[],(p1 [0,0,0,0,0,0,2,1,0,0,2,1,2,2,2,2]),[],[{},{},pZ,pX,{},{},pZ,pX,{},{},pZ,pX,{ mode:=3 },pX,{ takes:=[false,true] }],[],[{},{},pZ,pX,{},{},pZ,pX,{},{},pZ,pX,{ mode:=3 },{ takes:=[false,true] }],[],[],(p1 [0,0,0,0,0,0,2,1,0,0,2,1,2,2,2,2])] }
def abw:c8:={ ops:=[[],(p1 [0,0,0,0,0,0,2,1,0,0,2,1,2,2,2,2]),[],[{},{},pZ,pX,{},{},pZ,pX,{},{},pZ,pX,{ mode:=3 },{ takes:=[false,true] }],[],[{},{},pZ,pX,{},{},pZ,pX,{},{},pZ,pX,{ mode:=3 },pX,{ takes:=[false,true] }],[],[],(p1 [0,0,0,0,0,0,2,1,0,0,2,1,2,2,2,2]),[],(p1 [0,0,0,0,0,0,2,1,0,0,2,1,2,2,2,2]),[],[],[{},{},pZ,pX,{},{},pZ,pX,{},{},pZ,pX,{ mode:=3 },{ takes:=[false,true] }],[],[{},{},pZ,pX,{},{},pZ,pX,{},{},pZ,pX,{ mode:=3 },pX,{ takes:=[false,true] }],[],[],(p1 [0,0,0,0,0,0,2,1,0,0,2,1,2,2,2,2]),[],[],(p1 [0,0,0,0,0,0,2,1,0,0,2,1,2,2,2,2])] }
def abx:c8:={ ops:=[[],[{},pX],(p1 [1,1,1]),[],[{},pX],(p1 [1,1,1]),(p1 [1,1,1]),[pX,pX,pX,{ takes:=[false,true] },pX,pZ,pX]] }
def aby:c8:={ ops:=[[],[{},pX],(p1 [1,1,1]),[],[{},pX],(p1 [1,1,1]),(p1 [1,1,1]),[{},pX],(p1 [1,1,1]),(p1 [1,1,1]),[pX,pX,pX,{ takes:=[false,true] },pX,pZ,pX]] }
def UJ:c8:={ ops:=[[],[{},pX],[],[{},pX],[{},{},{},pZ,pX,{ mode:=6 }],[pX,pX],[pX,pX],[]],h9:=[(0,(Ex false [0,2,5,2,10]))] }
def UK:c8:={ ops:=[[],[],(p1 [0,0,2,1]),[{},pX],[pX,pX,pX,pX,{ takes:=[false,true,true,true,true],mode:=1 }],[{},pX],[pX,pX,pX,pX,{ takes:=[false,true,true,true,true],mode:=1 }],[{},pX],[{},{},{},{},{ takes:=[false,true,true,true,true],mode:=1 }],(p1 [1,1,1]),[{},{},{},{},{ takes:=[false,true,true,true,true],mode:=1 },pX,{},pX,pX,pX],[{},pX],[{},{},{},{},{ takes:=[false,true,true,true,true],mode:=1 }],(p1 [0,1,1,0,2,2,1]),[],(p1 [0,1,0,2,1,1,1,2]),[{},{},{},{},{ takes:=[false,true,true,true,true],mode:=1 }],[{},pX,pX,{},{},{},pX,pZ,pX,{},{},pZ,pX,{ mode:=6 },pX,pX,{ takes:=[false,true] }],[{},pX,{},pX,{},{ takes:=[false,true,true,true,true,true],mode:=1 },pX],[pX,pX],[{},{},{},pX,{},{ takes:=[false,true,true,true,true,true],mode:=1 },pX,{},pX,pX,pX],[pX,pX],(p1 [0,0,2,0,0,2,1,1]),(p1 [1,1,1]),(p1 [0,0,2]),(p1 [1,1,2,1]),[{},pX,{},{},{},{ takes:=[false,true,true,true,true,true],mode:=1 }],(p1 [1,1,1]),(p1 [1,1,2,1]),[{},{},pX,pX,{},{},{ takes:=[false,true,true,true,true,true],mode:=1 }],[pX,pX]],h9:=[(0,(Ex false [0,5,5,2,136]))] }
def UL:c8:={ ops:=[(p1 [0,1,1,0,1]),(p1 [0,0,2]),(p1 [1,1,1,1,1,1]),(p1 [0,0,0,0,0,0,2,1,0,0,2,1,2,2,2,2])],h9:=[(0,(Ex false [0,1,1,2,24]))] }
def abz:c8:={ ops:=[[],[{},pX],[{},pX],(p1 [1,0,1,0,1,2,2,1]),[{},pX],(p1 [0,0,1,2,1,2,1,1,2,1]),[pX,pX]] }
def UM:c8:={ ops:=[[],[{},pX,pX,pX,pX,{},pZ,pX,pX,{},pZ,pX,{},pX,pX,pX,pX,{},pZ,pX,pX,{},pZ,{ takes:=[false,false,true] },pX]] }
def UN:c8:={ ops:=[[],[pX,pX,{ mode:=3 },pX,pX]] }
def abB:c8:={ ops:=[[],[],[],[{},pX,{},pZ,pX,{},{},{},pZ,pZ,pX,{},{},{},pZ,pX,pZ,pX,{ mode:=3 },{ takes:=[false,true] }],[],[{},{},{},pZ,pZ,pX,{},{},{},pZ,pZ,pX,{ mode:=3 },pX],(p1 [0,0,0,2,0,0,0,2,0,0,0,2,2,1,0,0,0,2,2,1,2,2,2,2])] }
def abC:c8:={ ops:=[[],(p1 [0,0,1,0,1,1,1,2,0,2]),(p1 [0,0,1,0,1,1,1,2,0,2]),(p1 [0,0,1,0,1,1,1,2,0,2])] }
def UO:c8:={ ops:=[[],(p1 [0,1,2,1])] }
def UP:c8:={ ops:=[(p1 [0,1,1]),(p1 [0,0,2]),(p1 [1,1,1]),[{},pX],[{},{},pZ,pX,{},{},{},pZ,pX,{},{},pX,pZ,pX,{ mode:=6 },pX,{ takes:=[false,true] }],(p1 [1,1,1]),(p1 [0,0,0,0,1,0,0,1,2,1,0,0,2,1,2,2,2,2])],h9:=[(0,(Ex false [0,4,4,1,44])),(2,(Ex false [0,4,4,2,43]))] }
def abD:c8:={ ops:=[[],[],[],[],[],[],[],[],[],[],(p1 [0,0,0,0,0,2,0,0,0,2,2,1,0,0,2,1,2,2,2,2])] }
def abF:c8:={ ops:=[[],[],[],[],[],[],[],[],[],[],(p1 [0,0,0,0,0,2,0,0,0,2,2,1,0,0,2,1,2,2,2,2])] }
def abG:c8:={ ops:=[[],[],[],(p1 [0,0,0,0,0,0,2,1,0,0,2,1,2,2,2,2])] }
def abH:c8:={ ops:=[[],[],[],[],[],[{},{},pZ,pX,{},{},{},pZ,pX,{},{},pX,pZ,pX,{ mode:=6 },pX,pX,{ takes:=[false,true] }],[],[],[],[],[],(p1 [0,0,0,0,1,0,0,1,2,1,0,0,2,1,2,2,2,2]),[],[],[],[],[{},{},{},pZ,pX,{},{},pX,pZ,pX,{ mode:=6 },pX,pX],(p1 [0,0,0,0,1,0,0,1,2,1,0,0,2,1,2,2,2,2]),[],[],[],[],[{},{},{},pZ,pX,{},{},pX,pZ,pX,{ mode:=6 },pX,pX],(p1 [0,0,0,0,1,0,0,1,2,1,0,0,2,1,2,2,2,2])] }
def abI:c8:={ ops:=[[],(p1 [0,0,0,0,0,0,2,1,0,0,2,1,2,2,2,2]),[],[{},{},pZ,pX,{},{},{},pZ,pX,{},{},pZ,pX,{ mode:=6 },pX,pX,{ takes:=[false,true] }],[],[{},{},pZ,pX,{},{},{},pZ,pX,{},{},pZ,pX,{ mode:=6 },pX,{ takes:=[false,true] }],[],[],(p1 [0,0,0,0,0,0,2,1,0,0,2,1,2,2,2,2])] }
def abJ:c8:={ ops:=[[],(p1 [0,0,0,0,0,0,2,1,0,0,2,1,2,2,2,2]),[],[{},{},pZ,pX,{},{},{},pZ,pX,{},{},pZ,pX,{ mode:=6 },pX,{ takes:=[false,true] }],[],[{},{},pZ,pX,{},{},{},pZ,pX,{},{},pZ,pX,{ mode:=6 },pX,pX,{ takes:=[false,true] }],[],[],(p1 [0,0,0,0,0,0,2,1,0,0,2,1,2,2,2,2]),[],(p1 [0,0,0,0,0,0,2,1,0,0,2,1,2,2,2,2]),[],[],[{},{},pZ,pX,{},{},{},pZ,pX,{},{},pZ,pX,{ mode:=6 },pX,{ takes:=[false,true] }],[],[{},{},pZ,pX,{},{},{},pZ,pX,{},{},pZ,pX,{ mode:=6 },pX,pX,{ takes:=[false,true] }],[],[],(p1 [0,0,0,0,0,0,2,1,0,0,2,1,2,2,2,2]),[],[],(p1 [0,0,0,0,0,0,2,1,0,0,2,1,2,2,2,2])] }
def QD:c8:={ ops:=[[],[{},pX],[],[{},pX],(p1 [0,0,0,2,1,2]),[pX,pX],[pX,pX],[]],h9:=[(0,(Ex false [0,2,5,2,10]))] }
def abK:c8:={ ops:=[[],[{},{},pZ,pX,{},{},pZ,pX,{ mode:=3 }]] }
def abL:c8:={ ops:=[[],[],[],[{},pX,{},pZ,pX,{},{},{},{},pZ,pZ,pX,{},{},{},pZ,pX,pZ,pX,{ mode:=6 },pX,{ takes:=[false,true] }],[],[{},{},{},{},pZ,pZ,pX,{},{},{},pZ,pZ,pX,{ mode:=6 },pX,pX],(p1 [0,0,0,2,0,0,0,2,0,0,0,2,2,1,0,0,0,2,2,1,2,2,2,2])] }
def abN:c8:={ ops:=[[],[pX,{},{},pZ,pX,{},{},pZ,pX,{ mode:=6 },pX]] }
def aci:List c8:=[{},{},abP,abQ,{},{},{},ab8,MN,ace,QA,abo,abt,abA,abE,abM,UQ,abO,ML,MM,UR,QE,US,UT,QF,UU,N6,UW,{},UX,{},abR,{},abS,abT,UY,{},UZ,abU,abV,{},U0,U1,abW,{},abX,{},U2,U3,N7,abY,abZ,U4,QG,ab0,{},ab1,U5,ab2,ab3,ab4,ab5,ab6,ab7,U6,U7,U8,U9,U_,QH,U',Va,Vb,Vc,QI,Vd,N8,QJ,{},Lx,ab9,ab_,aca,J2,acb,acd,{},{},{},Ve,acf,acg,Vf,Vg,QL,QM,Vh,ach,Vi,Vj,Ux,abm,Uy,Uz,KB,UA,N5,UB,UC,UD,QB,UE,UF,UG,QC,UH,abp,abq,{},abr,abu,UI,abv,abw,abx,aby,UJ,UK,UL,abz,UM,UN,abB,{},abC,{},{},UO,UP,abD,abF,{},abG,abH,abI,abJ,QD,abK,abL,{},{},abN]
def jr (k:FuncId):c8:=aci.getD k {}
end Go.Proofs.YtfakoboiahbhaaaGreat.Ab


namespace Go.Proofs.YtfakoboiahbhaaaGreat.Ab
open Go
end Go.Proofs.YtfakoboiahbhaaaGreat.Ab


namespace Go.Proofs.YtfakoboiahbhaaaGreat.Ab
open Go
end Go.Proofs.YtfakoboiahbhaaaGreat.Ab


namespace Go.Proofs.YtfakoboiahbhaaaGreat.Ab
open Go
theorem dJ:Go.Proofs.Tryz.prog.follows .mixedOrders=true:=by kernel_rfl
abbrev qg (k:FuncId) (args:List I) (v:I):Prop:=lh Go.Proofs.Tryz.prog k args v
abbrev hR (n:Int):I:=.int .i64 n
abbrev rr:I:=.junk
abbrev B (b:Bool):I:=.bool b
def jj (l:List Int):I:=.ay (l.map hR) l.length .shared
def iu (l:List (List Int)):I:=.ay (l.map jj) l.length .shared
theorem Xu (d:Nat) (l:List Int):(l.map hR).all (cq (d+1))=true:=by
 rw [sC];intro u hu;obtain ⟨x,_,rfl⟩:=ss.1 hu;rfl
theorem Xt (d:Nat) (l:List Int):cq (d+2) (jj l)=true:=Xu d l
theorem Si (d:Nat) (l:List (List Int)):(l.map jj).all (cq (d+2))=true:=by
 rw [sC];intro u hu;obtain ⟨x,_,rfl⟩:=ss.1 hu;exact Xt d x
theorem agC (d:Nat) (l:List (List Int)):cq (d+3) (iu l)=true:=Si d l
theorem LW (k:IntKind) (n:Int):cq 8 (.int k n)=true:=rfl
theorem L4 (b:Bool):cq 8 (.bool b)=true:=rfl
theorem LX (l:List Int) (n:Nat) (c:iq):cq 8 (.ay (l.map hR) n c)=true:=Xu 6 l
theorem LZ (l:List (List Int)) (n:Nat) (c:iq):cq 8 (.ay (l.map jj) n c)=true:=Si 5 l
theorem LY (l:List Int):cq 8 (jj l)=true:=Xt 6 l
theorem L0 (l:List (List Int)):cq 8 (iu l)=true:=agC 5 l
theorem L5 (k:FuncId):cq 8 (.func k [] [])=true:=rfl
theorem L6 (n:Nat) (c:iq):cq 8 (.ay [] n c)=true:=rfl
theorem JR (l:List (List Int)) (n:Nat) (c:iq):cq 8 (.agg [.ay (l.map jj) n c])=true:=by
 show [I.ay (l.map jj) n c].all (cq 7)=true;rw [tr,tY,tS];exact Si 4 l
theorem L1 (l:List (List Int)):cq 8 (.agg [iu l])=true:=JR l _ _
theorem L2 (l:List (List Int)):cq 8 (.bU [iu l])=true:=JR l _ _
theorem L3 (l:List (List Int)) (n:Nat) (c:iq):cq 8 (.bU [.ay (l.map jj) n c])=true:=JR l _ _
theorem af6 {α:Type} (f:α→I) (l:List α) (i:Nat) (h:i<l.length) {K:I→Prop} (k:K (f l[i])):eR ((l.map f).drop (i*1)) 0 K :=
 DU (x:=f l[i]) (by simp [h]) k
theorem q5 (i:Nat) (h:i≤9223372036854775806):IntKind.i64.wrap ((i:Int)+1)=((i+1:Nat):Int):=by rw [IntKind.wrap_i64];omega
theorem Ih (n:Int) (ad:-9223372036854775808≤n) (af:n≤9223372036854775807):IntKind.i64.wrap n=n:=by rw [IntKind.wrap_i64];omega
theorem Xs:∀ {d:Nat} {v:I},cq d v=true→cq (d+1) v=true
 | 0,v,h=>by simp [cq] at h
 | d+1,v,h=>by
   have key:∀ {l:List I},l.all (cq d)=true→l.all (cq (d+1))=true:=fun h=>by
    rw [sC] at h ⊢;exact fun u hu=>Xs (h u hu)
   cases v <;> simp only [cq,sx,tM] at h ⊢ <;> first | trivial | exact key h | exact ⟨key h.1,key h.2⟩
theorem Hs {p:Prop} [Decidable p] {A C:Prop} (ad:p→A) (af:¬ p→C):(match decide p with | true=>A | false=>C):=by
 by_cases h:p
 ·simp only [h,decide_true];exact ad h
 ·simp only [h,decide_false];exact af h
theorem IE {k:FuncId} {xs:List I} {v:I}:∀ p∈([]:di),p.1=k→p.2.1=xs→p.2.2=v:=fun _ h=>by simp at h
theorem x1 {k k':FuncId} {xs ys:List I} {v br:I} (h:k'=k→ys=xs→br=v):∀ p∈([(k',ys,br)]:di),p.1=k→p.2.1=xs→p.2.2=v:=fun p aC=>by
 simp only [List.mem_singleton] at aC;subst aC;exact h
theorem Qy {k:FuncId} {xs:List I} {v:I} {acc:di} (h:acc.all (fun p=>p.1 != k)=true):∀ p∈acc,p.1=k→p.2.1=xs→p.2.2=v:=fun p aC e=>by
 have:=sC.1 h p aC;simp [e] at this
def rL (cap:List I):Prop:=cap.all (cq 7)=true∧∀ u∈cap,∃ cs,u=.bU cs
theorem rL.Lw {cap:List I} (h:rL cap):cap.all (cq 8)=true:=by
 have ad:=h.1;rw [sC] at ad ⊢;exact fun u hu=>Xs (ad u hu)
theorem rL.il {cap:List I} (h:rL cap) (H:List au):cap.map (il H)=cap:=by
 conv=>rhs;rw [←u_ cap]
 apply tR;intro u hu;obtain ⟨cs,rfl⟩:=h.2 u hu;rfl
theorem rL.hH {cap:List I} (h:rL cap) (H:List au):cap.map (hH H)=cap:=by
 conv=>rhs;rw [←u_ cap]
 apply tR;intro u hu;obtain ⟨cs,rfl⟩:=h.2 u hu;rfl
theorem rL.cr {cap:List I} (h:rL cap):cap.map I.cr=cap:=by
 conv=>rhs;rw [←u_ cap]
 apply tR;intro u hu;obtain ⟨cs,rfl⟩:=h.2 u hu;rfl
theorem rL.fn {cap:List I} (h:rL cap) (H:List au) (k:FuncId):Ab.il H (.func k [] cap)=.func k [] cap:=by
 simp only [Ab.il,h.hH,List.map_nil]
theorem rL.Ni {cap:List I} (h:rL cap) (k:FuncId):cq 8 (.func k [] cap)=true:=by
 show (([]:List I).all (cq 7) && cap.all (cq 7))=true;rw [h.1];rfl
theorem rL.nil:rL []:=⟨rfl,by simp⟩
section
variable {P:Program}
theorem call6 {k:FuncId} {xs bs:List I} {H:List au} {lo:Nat} {v:I} (ag:(xs.map (il H)).map I.cr=bs) (aC:(xs.map (il H)).all (cq 8)=true) (h:lh P k bs v) (ai:gg v=true):oq P 6 lo (.fn k) xs H v.cr H:=by
 subst ag;refine ⟨kR (.fn k) ((xs.map (il H)).map I.cr) [] 0 v [],DZ h.1,?_⟩;simp only [eV,aC,DY,r_,oT h.2,ai]
end
theorem V8 {H:List au} {id d:Nat} {l:List I} (h:H[id]?=some (.cells l)) (aC:(l.map I.view).all (cq d)=true):bJ H 0 H.length 0 (d+1) (.ptr id 0)=some (.bU (l.map I.view)):=by
 have ad:=(sa.1 h).1;have af:ed (bJ H 0 H.length 0 d) (l.map I.view)=some (l.map I.view):=zr fun u hu=>oT (by rw [sC] at aC;exact aC u hu);simp only [bJ,Nat.not_lt_zero,if_false,h,sO,af,sd];rw [if_neg (by omega)]
def idxOf {α:Type} (p:α→Bool):List α→Nat→Int
 | [],_ => -1
 | x::l,i=>if p x=true then i else idxOf p l (i+1)
end Go.Proofs.YtfakoboiahbhaaaGreat.Ab


namespace Go.Proofs.YtfakoboiahbhaaaGreat.Ab
open Go
section
variable {P:Program}
theorem Q7 (dJ:P.follows .mixedOrders=true) {k:Nat} {A:c8} {rc:eA} {n:Nat} {ts:List jk} (ak:ze P A k=some (rc,n,ts)) {lo:Nat} {args T:List I} {H H':List au} (bX:args++List.replicate (n-args.length) .junk=T) {v:I} (pr:ba lo H H')
  (h:dD P A k lo none rc T H fun e fi H1=>(e=.normal∨e=.ret)∧ji H1 H'∧(j1 H1 fi ts).map hb=some v):Sem P (.fn k) args H lo v H':=by
 unfold ze at ak;split at ak
 ·rename_i f aQ;split at ak
  ·rename_i c ag;split at ak
   ·rename_i Gs FD ad af aG a6;simp only [Option.some.injEq,Prod.mk.injEq] at ak;obtain ⟨rfl,rfl,rfl⟩:=ak;subst bX;refine Gz dJ aQ ag (by simpa using af) ad pr (k_ (fun e s a3=>?_) (w_ aG h));obtain ⟨cb,b8,d_⟩:=a3;simp only [rZ] at d_;obtain ⟨vs,d_,hp⟩:=d_;exact ⟨cb,b8,vs,by rw [xk _ _ a6,d_],hp⟩
   ·cases ak
  ·cases ak
 ·cases ak
end
theorem G4 {P:Program} (dJ:P.follows .mixedOrders=true) {k:Nat} {A:c8} {rc:eA} {n:Nat} {ts:List jk} (ak:ze P A k=some (rc,n,ts)) {lo:Nat} {args T:List I} {H H':List au} (bX:args++List.replicate (n-args.length) .junk=T) {v:I} (pr:ba lo H H')
  (h:∀ Q:cB→List I→List au→Prop,(∀ e fi H1,(e=.normal∨e=.ret)∧ji H1 H'∧(j1 H1 fi ts).map hb=some v→Q e fi H1)→dD P A k lo none rc T H Q):Sem P (.fn k) args H lo v H' :=
 Q7 dJ ak bX pr (h _ fun _ _ _ h=>h)
theorem HU {P:Program} {A:c8} {fn:FuncId} {lo:Nat} {rl:Option Nat} {c:eA} {T:List I} {H:List au} {K:cB→List I→List au→Prop} (h:∀ K':cB→List I→List au→Prop,(∀ e T H,K e T H→K' e T H)→dD P A fn lo rl c T H K'):dD P A fn lo rl c T H K:=h K fun _ _ _ h=>h
theorem Ha {P:Program} {lo:Nat} {b0:e6} {xs:List I} {H H':List au} {v:I} (h:Sem P b0 xs H lo v H'):oq P 1 lo b0 xs H v H' :=
 ⟨kR b0 xs H lo v H',DZ h,by simp only [eV,DY]⟩
theorem XY {P:Program} {k:FuncId} {args:List I} {v:I} (cd:args.all (cq 8)=true) (h:lh P k args v) (H:List au):Sem P (.fn k) args H H.length v H:=by
 obtain ⟨⟨_,ad,af⟩,aC⟩:=h
 exact ⟨ba.refl _ _,ad,fun B U J S w vs ah aN ae=>CallsIn.mono (af B _ [] S w vs (yS ah) (fun b i h=>by obtain ⟨_,_,h⟩:=lv h;cases h) (ae.pure cd)) fun e w' he=>by
  cases e with
  | returned v=>exact zJ ah (oT (n:=0) aC) he
  | panicked c=>exact he.elim
  | outgrown=>exact he.elim⟩
theorem acv {P:Program} {k:FuncId} {args:List I} {v:I} (cd:args.all (cq 8)=true) (h:lh P k args v) (H:List au) (lo:Nat):oq P 0 lo (.fn k) args H v H :=
 ⟨_,DZ (XY cd h H),by simp only [eV,DY,r_,oT h.2,sd]⟩
theorem qA {X Z:List au} {j:Nat} {o:au} (h:X[j]?=some o):(X++Z)[j]?=some o:=by
 rw [sA (sa.1 h).1];exact h
theorem ru (X:List au) (c dX:au):(X++[c]).set X.length dX=X++[dX]:=by simp
theorem IH (X:List au) (c:au):(X++[c])[X.length]?=some c:=by simp
end Go.Proofs.YtfakoboiahbhaaaGreat.Ab


namespace Go.Proofs.YtfakoboiahbhaaaGreat.Ab
open Go
def p8:Nat:=18446744073709551616
theorem rC {n:Nat} (h:n≤9223372036854775808):n<p8:=by unfold p8;omega
def p6 (p:Prop) [Decidable p] {aT:Type} (k:Option aT):Option aT:=if p then k else none
theorem qJ {p:Prop} [Decidable p] {aT:Type} {k:Option aT} {v:aT} (h:p6 p k=some v):p∧k=some v:=by
 unfold p6 at h;split at h
 ·exact ⟨by assumption,h⟩
 ·cases h
theorem qe {p:Prop} [Decidable p] {aT:Type} {k:Option aT} (h:p):p6 p k=k:=if_pos h
theorem p' {α aT:Type} {x:Option α} {f:α→Option aT} {v:aT} (h:x.bind f=some v):∃ a,x=some a∧f a=some v:=by
 cases x with
 | none=>cases h
 | some a=>exact ⟨a,rfl,h⟩
theorem GL {b:Bool} {aT:Type} {x y:Option aT} {v:aT} (ag:b=true) (h:(if b=true then x else y)=some v):x=some v:=by
 rw [if_pos ag] at h;exact h
theorem GK {b:Bool} {aT:Type} {x y:Option aT} {v:aT} (ag:b=false) (h:(if b=true then x else y)=some v):y=some v:=by
 rw [if_neg (by rw [ag];decide)] at h;exact h
theorem Ij (b:Bool):b=true∨b=false:=by cases b <;> simp
def ix {α:Type} [Inhabited α] (l:List α) (i:Int):α:=l.getD i.toNat default
theorem qW {α:Type} [Inhabited α] {l:List α} {k:Nat} (h:k<l.length):ix l (k:Int)=l[k]:=by
 simp [ix,h]
theorem OL {α:Type} [Inhabited α] {l:List α} {i:Int} (h:0≤i∧i<(l.length:Int)):ix l i=l[i.toNat]'(by omega):=by
 have:i.toNat<l.length:=by omega
 simp [ix,this]
abbrev w (n:Int):Int:=IntKind.i64.wrap n
theorem ai_ {n:Int} (ad:-9223372036854775808≤n) (af:n≤9223372036854775807):w n=n:=Ih n ad af
theorem q9 {aT:Type} {v:aT} {G:Prop} (h:(none:Option aT)=some v):G:=by cases h
def abe {α:Type} (f:α→I) (l:List α):I:=.ay (l.map f) l.length .shared
def qy {α:Type} (f:α→List I) (l:List α):I:=.ay (l.flatMap f) l.length .shared
theorem rP {α:Type} [Inhabited α] (f:α→I) (l:List α) (n:Int) (h:0≤n∧n<(l.length:Int)):(l.map f).drop (n.toNat*1)=f (ix l n)::(l.drop (n.toNat+1)).map f:=by
 have aX:n.toNat<l.length:=by omega
 rw [tD,←List.map_drop,sT aX,se,OL h]
theorem q3 {α:Type} [Inhabited α] (f:α→List I) (s:Nat) (ai:∀ x,(f x).length=s):∀ (l:List α) (n:Int),0≤n∧n<(l.length:Int)→(l.flatMap f).drop (n.toNat*s)=f (ix l n)++(l.drop (n.toNat+1)).flatMap f:=by
 have key:∀ (l:List α) (k:Nat) (h:k<l.length),(l.flatMap f).drop (k*s)=f l[k]++(l.drop (k+1)).flatMap f:=by
  intro l
  induction l with
  | nil=>intro k h;simp at h
  | cons x l a_ =>
    intro k h;cases k with
    | zero=>simp
    | succ k =>
      (have av:k<l.length:=by simpa using h);(have e:(k+1)*s=(f x).length+k*s:=by rw [ai,tp,vC,te]);rw [tZ,e,List.drop_length_add_append,a_ k av];rfl
 intro l n h;rw [key l n.toNat (by omega),OL h]
theorem H0 {α:Type} (f:α→List I) (s:Nat) (ai:∀ x,(f x).length=s) (l:List α):(l.flatMap f).length=l.length*s:=by
 induction l with
 | nil=>simp
 | cons x l a_=>rw [tZ,sm,a_,ai,List.length_cons,tp,vC,te]
theorem acm {α:Type} (f:α→I) (l m:List α) (c:iq):I.ay (l.map f++m.map f) (l.length+m.length) c=.ay ((l++m).map f) (l++m).length c:=by
 rw [sY,sm]
theorem Ly {α:Type} (f:α→I) (l:List α) (x:α) (c:iq):I.ay (l.map f++[f x]) (l.length+1) c=.ay ((l++[x]).map f) (l++[x]).length c:=by
 rw [sY,sm];rfl
theorem I' {α:Type} (f:α→List I) (l:List α) (x:α) (c:iq):I.ay (l.flatMap f++f x) (l.length+1) c=.ay ((l++[x]).flatMap f) (l++[x]).length c:=by
 simp [vD]
theorem QN {α:Type} (f:α→List I) (l m:List α) (c:iq):I.ay (l.flatMap f++m.flatMap f) (l.length+m.length) c=.ay ((l++m).flatMap f) (l++m).length c:=by
 simp [vD]
theorem X5 {α:Type} (f:α→I) (l:List α) (n:Int) (h:0≤n∧n≤(l.length:Int)) (c:iq):I.ay ((l.map f).take (n.toNat*1)) n.toNat c=.ay ((l.take n.toNat).map f) (l.take n.toNat).length c:=by
 rw [tD,sR,←uo,tq (by omega)]
theorem NB {α:Type} [Inhabited α] (f:α→I) (l:List α) (n:Int) (h:0≤n∧n<(l.length:Int)) {K:I→Prop} (k:K (f (ix l n))):eR (l.map f) (0+n.toNat*1) K:=by
 have aX:n.toNat<l.length:=by omega
 refine DU (x:=f (ix l n)) ?_ k;rw [sP,tD,su,sq aX,OL h];rfl
theorem NG {α:Type} (f:α→I) (l:List α) (n:Int) (x:α) (h:0≤n∧n<(l.length:Int)) {K:List I→Prop} (k:K ((l.set n.toNat x).map f)):je (l.map f) (0+n.toNat*1) (f x) K:=by
 have aX:n.toNat<l.length:=by omega
 refine FI (by simpa using aX) ?_;rw [sP,tD,←uN];exact k
theorem TA {α:Type} (f:α→I) (x:α):∀ n,e0 n [f x]=(List.replicate n x).map f
 | 0=>rfl
 | n+1=>by rw [e0,TA f x n];rfl
theorem Uw {a b:Bool} (h:a=true) (k:b=true):(a && b)=true:=by rw [h,k];rfl
theorem pY {α:Type} {f:α→Bool} {x:α} {l:List α} (h:f x=true) (k:l.all f=true):(x::l).all f=true:=Uw h k
theorem I0 {cs:List I} {d:Nat} (h:cs.all (cq d)=true):cq (d+1) (.agg cs)=true:=h
theorem qK {cs:List I} {d:Nat} (h:cs.all (cq d)=true):cq (d+1) (.bU cs)=true:=h
theorem H5 {cs:List I} {d:Nat} (h:cs.all (cq d)=true):cq (d+1) (.tuple cs)=true:=h
theorem I1 {k:FuncId} {a b:List I} {d:Nat} (ad:a.all (cq d)=true) (af:b.all (cq d)=true):cq (d+1) (.func k a b)=true:=Uw ad af
theorem ra {α:Type} {f:α→I} {d:Nat} (h:∀ x,cq d (f x)=true) (l:List α) (n:Nat) (c:iq):cq (d+1) (.ay (l.map f) n c)=true:=by
 show (l.map f).all (cq d)=true;rw [sC];intro u hu;obtain ⟨x,_,rfl⟩:=ss.1 hu;exact h x
theorem qG {α:Type} {f:α→List I} {d:Nat} (h:∀ x,(f x).all (cq d)=true) (l:List α) (n:Nat) (c:iq):cq (d+1) (.ay (l.flatMap f) n c)=true:=by
 show (l.flatMap f).all (cq d)=true;rw [sC];intro u hu;obtain ⟨x,_,al⟩:=vb.1 hu;exact sC.1 (h x) u al
theorem Xr {α:Type} {f:α→I} {d:Nat} (h:∀ x,cq d (f x)=true) (l:List α):(l.map f).all (cq d)=true:=by
 rw [sC];intro u hu;obtain ⟨x,_,rfl⟩:=ss.1 hu;exact h x
theorem lh.cr {P:Program} {k:FuncId} {args:List I} {v:I} (h:lh P k args v) (aC:cq 8 v.cr=true):lh P k args v.cr :=
 ⟨⟨h.1.1,h.1.2.1,fun B U J S w vs ah aN ae=>CallsIn.mono (h.1.2.2 B U J S w vs ah aN ae) fun e w' he=>by
   cases e with
   | returned x=>exact a1.cr he
   | panicked c=>exact he.elim
   | outgrown=>exact he.elim⟩,aC⟩
section
variable {P:Program} {B:Nat} {J:List Nat} {w:World} {U:Nat→Option aI} {S:Nat→Nat→Prop}
theorem a1.Zi {H':List au} {r:I} {v:Value} {w':World} (h:a1 B U J S w H' r v w'):a1 B U J S w H' r.settle.view.cr v w':=by
 have ad:a1 B U J S w H' r.settle v w':=by
  cases r with
  | ay c n k=>cases k with
    | uniq z=>exact h.settle
    | _=>exact h
  | _=>exact h
 have af:r.settle.cT=true:=by
  cases r with
  | ay c n k=>cases k <;> rfl
  | _=>rfl
 obtain ⟨bn,cg,bH,a,b,c,d,e⟩:=ad;exact a1.cr ⟨bn,cg,bH,a,b,c,d.view af,aV.b3 (I.dh _)⟩
theorem agF (dJ : P.follows .mixedOrders = true) {k : Nat} {f : Func} {c : Code} (aQ : P.funcs[k]? = some f) (ag : f.body = some c) (aN : f.name ≠ "runtime.NumGoroutine") {A : c8} (bO : codeOk A c = true)
  {args:List I} {v:I} (aC:cq 8 v=true)
  (h:c3 P A k 0 none c 0 ⟨args++List.replicate (f.ntmps-args.length) .junk,[]⟩ fun e s=>(e=.normal∨e=.ret)∧∃ vs r,fg P s.H s.T f.results.toList=some vs∧bJ s.H 0 s.H.length 0 8 (hb vs)=some r∧r.settle.view.cr=v):lh P k args v:=by
 refine ⟨⟨ba.refl _ _,⟨f,aQ,by simp [ag],aN⟩,fun B U J S w xs ah _ ae=>?_⟩,aC⟩;refine callsIn_of_wp_marks aQ ag trivial ?_;have aK:=xM ah ae f.ntmps;have db:=(oe ah).1;refine oi dJ c 0 _ _ h bO Fence.wide _ B w.heap.size J w (hK U) S _ (.inl ⟨rfl,rfl⟩) (fun l a w aO=>aO.elim) aK fun e s av aM w' ai=>?_;obtain ⟨he,vs,r,aj,Cs,ei⟩:=av;obtain ⟨b2,cQ,a4,aJ,aP,b'⟩:=ai;have iK:LeavesInM Fence.wide 0 P f aM.tmps (fv B U J S w [] v) aM.defers .returning w':=by
  refine nG (U:=b2) (S:=a4) (J:=cQ) (B:=B) (H:=s.H) (lg:=U) (S0:=S) (w0:=w) aM.defers w' b'.M.2.1 b'.M.2.2 (db.trans aP) b'.H fun bT du dm mi mj=>?_
  have bX:a9 .slot b2 cQ a4 bT s.T aM.tmps.toList:=⟨b'.T.len,fun i u v hu ae=>(b'.T.rel i u v hu ae).mono (Ext.refl _) (fun b o h=>⟨h,dm b o h⟩),fun i u v hu ae =>
   (b'.T.own i u v hu ae).mono (Ext.refl _) (fun b o h=>⟨h,dm b o h⟩) fun b ag=>⟨ag,du b _ ag,fun _ h=>h⟩⟩
  obtain ⟨x,q1,aW⟩:=xq mj bX aj;have nt:=xh ah (fun id aE=>by simp at aE) Cs (a1.after aJ mi aW);refine ⟨x,q1,?_⟩;rw [←ei];exact nt.Zi
 rcases he with rfl | rfl
 ·exact iK
 ·exact iK
end
inductive HW (rs:List jk) (v:I) (e:cB) (T:List I) (H:List au):Prop where
 | mk (he:e=.normal∨e=.ret) (vs:List I) (aj:j1 H T rs=some vs) (r:I) (aQ:bJ H 0 H.length 0 8 (hb vs)=some r) (ae:r.settle.view.cr=v)
theorem qB {P:Program} (dJ:P.follows .mixedOrders=true) {k:Nat} {A:c8} {rc:eA} {n:Nat} {ts:List jk} (ak:ze P A k=some (rc,n,ts)) {args T:List I} (bX:args++List.replicate (n-args.length) .junk=T) {v:I} (aC:cq 8 v=true)
  (h:∀ Q:cB→List I→List au→Prop,(∀ e T H,HW ts v e T H→Q e T H)→dD P A k 0 none rc T [] Q):lh P k args v:=by
 have h:=h _ fun _ _ _ h=>h;unfold ze at ak;split at ak
 ·rename_i f aQ;split at ak
  ·rename_i c ag;split at ak
   ·rename_i Gs FD ad af aG a6;simp only [Option.some.injEq,Prod.mk.injEq] at ak;obtain ⟨rfl,rfl,rfl⟩:=ak;subst bX;have a3:∀ e s,HW FD v e (a5.T s) (a5.H s)→(e=.normal∨e=.ret)∧∃ vs r,fg P s.H s.T f.results.toList=some vs∧bJ s.H 0 s.H.length 0 8 (hb vs)=some r∧r.settle.view.cr=v:=fun e s ⟨cb,vs,BX,r,b8,d_⟩=>by
     exact ⟨cb,vs,r,by rw [xk _ _ a6,BX],b8,d_⟩
    exact agF dJ aQ ag (by simpa using af) ad aC (k_ a3 (w_ aG h))
   ·cases ak
  ·cases ak
 ·cases ak
theorem wp_loop {P:Program} {A:c8} {fn:FuncId} {lo:Nat} {rl:Option Nat} {cD:List Bool} {c:eA} {T Ur:List I} {H:List au} {Q:cB→List I→List au→Prop} (bX:eT cD T=Ur)
  (h:Bi (fun T H Q=>nQ T fun T=>dD P A fn lo rl c T H fun e a7 H'=>match e with
   | .normal=>pT (some cD) a7 fun a7=>Q .normal a7 H'
   | e=>Q e a7 H') Ur H Q):dD P A fn lo rl (.loop (some cD) c) T H Q:=by
 show pT (some cD) T _;rw [Dh];subst bX;exact h
def OX {α:Type} (f:α→List I):Option α→I
 | none=>.eD
 | some x=>.bU (f x)
theorem Xq {α:Type} {f:α→List I} {d:Nat} (h:∀ x,(f x).all (cq d)=true) (x:Option α):cq (d+1) (OX f x)=true:=by
 cases x with
 | none=>rfl
 | some x=>exact h x
abbrev N4 (n:Int):I:=.int .u8 n
theorem R7 {f:I→Option I}:ed f []=some []:=rfl
theorem OO {f:I→Option I} {x y:I} {l r:List I} (h:f x=some y) (k:ed f l=some r):ed f (x::l)=some (y::r):=by simp only [ed,h,k,sd]
theorem adu {H:List au} {lo i n d:Nat} {vs rs:List I} (h:ed (bJ H lo i n d) vs=some rs):bJ H lo i n (d+1) (.tuple vs)=some (.tuple rs):=by simp only [bJ,h,sd]
theorem ahJ {α:Type} {f:α→I} {H:List au} {id n:Nat} {l:List α} {cap:Option Nat} (ah:H[id]?=some (.cells (l.map f))) (aN:n=l.length) (ae:∀ x,(f x).view=f x):rowOf H (.ref id 0 n cap 1)=some (l.map f):=by
 subst aN;simp only [rowOf,ah,sP,tD,sZ,sb,if_true,sO];rw [tQ (by simp),ud];congr 1;exact tR fun x _=>ae x
theorem adt {α:Type} {f:α→I} {H:List au} {id n d:Nat} {l:List α} {cap:Option Nat} (ah:H[id]?=some (.cells (l.map f))) (aN:n=l.length) (aC:∀ x,cq d (f x)=true) (ae:∀ x,(f x).view=f x):bJ H 0 H.length 0 (d+1) (.ref id 0 n cap 1)=some (.ay (l.map f) n (gV cap n)):=by
 have ad:=(sa.1 ah).1;have af:ed (bJ H 0 H.length 0 d) (l.map f)=some (l.map f):=zr fun u hu=>by
  obtain ⟨x,_,rfl⟩:=ss.1 hu;exact oT (aC x)
 simp only [bJ,Nat.not_lt_zero,if_false,ahJ ah aN ae,af,sd];rw [if_neg (by omega)]
theorem ac6 (cs:List I) (n m:Nat) (c:Option Nat):I.gT (.ay cs n (gV c m))=.ay cs n .shared:=by
 unfold gV;split
 ·split <;> rfl
 ·rfl
theorem HZ {P:Program} {k:FuncId} {xs cs bs:List I} {H:List au} {lo:Nat} {v:I} (ai:xs.map (il H)=cs) (ag:cs.map I.cr=bs) (aC:cs.all (cq 8)=true) (h:lh P k bs v) (ae:gg v=true):oq P 6 lo (.fn k) xs H v.cr H :=
 call6 (by rw [ai,ag]) (by rw [ai];exact aC) h ae
theorem qX {f:I→I} {x y:I} {l r:List I} (h:f x=y) (k:l.map f=r):(x::l).map f=y::r:=by rw [se,h,k]
theorem rn {f:I→I}:([]:List I).map f=[]:=rfl
theorem Jt {H:List au} {k:FuncId} {a b aM ar:List I} (ad:a.map (hH H)=aM) (af:b.map (hH H)=ar):il H (.func k a b)=.func k aM ar:=by simp only [il,ad,af]
theorem Ib {H:List au} {id off:Nat} {cs ds:List I} (ah:H[id]?=some (.cells cs)) (he:((cs.drop off).map I.view).map (j8 H)=ds):hH H (.ptr id off)=.bU ds:=by simp only [hH,ah,he]
theorem agj {P:Program} {C:b6} {lo mode:Nat} {o:Oper} {xs:Array Operand} {ts:Array TypeId} {vs:List I} {H:List au} (aq:o.op=.call { callee:=.builtin .copy,args:=xs,argTypes:=ts }):a8 P C lo o mode vs H=jV P lo ts H vs:=by
 unfold a8;rw [aq];rfl
theorem acT {α:Type} {P:Program} {f:α→I} {lo id n:Nat} {H:List au} {l m:List α} {cap:Option Nat} {c:iq} {e:TypeId} {ts:Array TypeId} (e1:(ts[0]?).bind P.underlying=some (.slice e)) (ck:bS P e=some 1) (bD:lo≤id)
  (ah:H[id]?=some (.cells (l.map f))) (aN:n=l.length) (hm:m.length=n):jV P lo ts H [.ref id 0 n cap 1,.ay (m.map f) m.length c]=some (.int .i64 (m.length:Int),H.set id (.cells (m.map f))):=by
 have oJ:setCells 0 (m.map f) (l.map f)=m.map f:=by
  apply tO;intro j;rw [n9 _ _ _ _ (by simp;omega)];by_cases aw:j<m.length
  ·rw [if_pos ⟨by omega,by simpa using aw⟩];simp
  ·rw [if_neg (by simp;omega),tB (by simp;omega),tB (by simpa using aw)]
 subst aN;unfold jV;simp only [e1,ck,lenOf,rowOf,g8,ah,if_pos bD];rw [if_pos ⟨trivial,by simp⟩,if_pos (by simp),hm,Nat.min_self,tD,tQ (by simp;omega),oJ];rfl
def HM {α JX:Type} (g:JX→α→Option JX):List α→JX→Option JX
 | [],s=>some s
 | x::l,s=>(g s x).bind fun t=>HM g l t
theorem Q8 {α JX:Type} {g:JX→α→Option JX}:∀ {l:List α} {s t:JX},HM g l s=some t→∃ F:Nat→JX,F 0=s∧F l.length=t∧∀ (i:Nat) (h:i<l.length),g (F i) l[i]=some (F (i+1))
 | [],s,t,h=>⟨fun _=>s,rfl,Option.some.inj h,fun i hi=>absurd hi (by simp)⟩
 | x::l,s,t,h=>by
   obtain ⟨u,ad,af⟩:=p' h;obtain ⟨F,f1,f2,f3⟩:=Q8 af;refine ⟨fun i=>match i with | 0=>s | i+1=>F i,rfl,f2,fun i hi=>?_⟩;cases i with
   | zero=>show g s x=some (F 0);rw [f1,ad]
   | succ i=>exact f3 i (by simpa using hi)
def Seq (P:Program) (k:FuncId) (cap:List I) (E:List I):Prop :=
 ∀ (l N:Nat) (rj:Nat→List au),(∀ i,(rj i).length=N)→l<N →
   (∀ (i:Nat) (h:i<E.length) (Y:List au),∃ q6,Sem P (.yield l) [E[i]] (rj i++Y) 0 (.bool true) (rj (i+1)++q6)) →
   ∀ Y,∃ q6,Sem P (.fn k) (.yield l::cap) (rj 0++Y) 0 (.tuple []) (rj E.length++q6)
theorem ON {H X:List au} (h:H.length≤X.length):ba 0 H X:=⟨h,fun _ h _=>absurd h (by omega)⟩
theorem X1 (X Y:List au) (c d:au):((X++[c])++Y).set X.length d=(X++[d])++Y:=by
 rw [sj,List.set_append_right _ _ (sb _)];simp
theorem Of (X Y:List au) (c:au):((X++[c])++Y)[X.length]?=some c:=by
 rw [sj,sL (sb _)];simp
theorem ahB {α:Type} {P:Program} {A:c8} {fn:FuncId} {rl:Option Nat} {k:FuncId} {cap:List I} {bh:List Nat} {gu bY:Code} {T:List I} {H MH:List au} {Q:cB→List I→List au→Prop} {f:α→I} {L:List α} (M':Seq P k cap (L.map f))
  (Obj:Nat→List au) (aS:Obj 0=H) (hlen:∀ i,(Obj i).length=H.length)
  (M_:∀ (i:Nat) (h:i<L.length) (Y:List au),∃ q6,Sem P (.yield H.length) [f L[i]] ((Obj i++[.loop .ready none fn (T.map I.view) bh gu bY A])++Y) 0 (.bool true) ((Obj (i+1)++[.loop .ready none fn (T.map I.view) bh gu bY A])++q6))
  (gZ:inLoop H rl=true) (aN:Obj L.length=MH) (bl:∀ q6,Q .normal (T.map I.settle) ((MH++[.dead])++q6)):n4 P A fn 0 rl (.func k [] cap) bh gu bY T H Q:=by
 obtain ⟨q6,cm⟩:=M' H.length (H.length+1) (fun i=>Obj i++[.loop .ready none fn (T.map I.view) bh gu bY A]) (fun i=>by simp [hlen]) (by omega) (fun i h Y=>by
  have aX:i<L.length:=by simpa using h
  obtain ⟨q6,aj⟩:=M_ i aX Y
  exact ⟨q6,by rw [List.getElem_map];exact aj⟩) []
 subst aN;simp only [sN,sZ,aS] at cm;have ak:(Obj L.length).length=H.length:=hlen _;refine ⟨gZ,.tuple [],_,.ready,none,fn,T.map I.view,bh,gu,bY,A,cm,by rw [←ak];exact Of _ _ _,by decide,?_⟩;show Q .normal (T.map I.settle) (((Obj L.length++[au.loop .ready none fn (T.map I.view) bh gu bY A])++q6).set H.length .dead);rw [←ak,X1];exact bl q6
end Go.Proofs.YtfakoboiahbhaaaGreat.Ab


namespace Go.Proofs.YtfakoboiahbhaaaGreat.Ab
open Go
theorem adp {H:List au} {lo i n d:Nat} {k:FuncId} {a b aM ar:List I} (ad:ed (bJ H lo i n d) a=some aM) (af:ed (bJ H lo i n d) b=some ar):bJ H lo i n (d+1) (.func k a b)=some (.func k aM ar):=by simp only [bJ,ad,af]
theorem ahC {α:Type} {P:Program} {A:c8} {fn:FuncId} {rl:Option Nat} {k:FuncId} {cap:List I} {t:Nat} {bh:List Nat} {gu bY:Code} {T:List I} {H MH:List au} {Q:cB→List I→List au→Prop} {f:α→I} {L:List α} (M':Seq P k cap (L.map f))
  (Obj:Nat→List au) (ax:c5 T t=.func k [] cap) (aS:Obj 0=H) (hlen:∀ i,(Obj i).length=H.length)
  (M_:∀ (i:Nat) (h:i<L.length) (Y:List au),∃ q6,Sem P (.yield H.length) [f L[i]] ((Obj i++[.loop .ready none fn (T.map I.view) bh gu bY A])++Y) 0 (.bool true) ((Obj (i+1)++[.loop .ready none fn (T.map I.view) bh gu bY A])++q6))
  (gZ:inLoop H rl=true) (aN:Obj L.length=MH) (bl:∀ q6,Q .normal (T.map I.settle) ((MH++[.dead])++q6)):dD P A fn 0 rl (.Am (.sl t) bh gu bY) T H Q:=by
 show hq T t _;rw [iE,ax];exact ahB M' Obj aS hlen M_ gZ aN bl
end Go.Proofs.YtfakoboiahbhaaaGreat.Ab


namespace Go.Proofs.YtfakoboiahbhaaaGreat.Ab
open Go
theorem adl {α:Type} [Inhabited α] (f:α→List I) (s:Nat) (ai:∀ x,(f x).length=s) (l:List α) (n:Int) (h:0≤n∧n<(l.length:Int)) (j:Nat) (aw:j<s):(l.flatMap f)[n.toNat*s+j]?=(f (ix l n))[j]?:=by
 have e:=q3 f s ai l n h
 have:(l.flatMap f)[n.toNat*s+j]?=((l.flatMap f).drop (n.toNat*s))[j]?:=by rw [sX]
 rw [this,e,sA (by rw [ai];exact aw)]
theorem ahr {α:Type} [Inhabited α] (f:α→List I) (s:Nat) (ai:∀ x,(f x).length=s) (l:List α) (n:Int) (h:0≤n∧n<(l.length:Int)) (j:Nat) {v:I} (aw:(f (ix l n))[j]?=some v) {K:I→Prop} (k:K v):eR (l.flatMap f) (0+n.toNat*s+j) K:=by
 refine DU (x:=v) ?_ k;rw [sP,adl f s ai l n h j (by have:=(sa.1 aw).1;rw [ai] at this;exact this),aw]
theorem ahs {α:Type} [Inhabited α] (f:α→List I) (s:Nat) (ai:∀ x,(f x).length=s) (l:List α) (n:Int) (h:0≤n∧n<(l.length:Int)) {v:I} (aw:(f (ix l n))[0]?=some v) {K:I→Prop} (k:K v):eR (l.flatMap f) (0+n.toNat*s) K :=
 ahr f s ai l n h 0 aw k
theorem adq {P:Program} {C:b6} {lo id n:Nat} {cap:Option Nat} {o:Oper} {x:Operand} {H:List au} {cs:List I} {sz:Nat} (aq:o.op=.move x) (bD:lo≤id) (ah:H[id]?=some (.cells cs)) (aN:cs.length=n*sz) (ae:∀ u∈cs,u.view=u) :
  a8 P C lo o 2 [.ref id 0 n cap sz] H=some (.ay cs n (gV cap n),H.set id .dead):=by
 unfold a8;rw [aq];show eS P lo 2 o.type x H [.ref id 0 n cap sz]=_;unfold eS;simp only [bD,if_true,rowOf,ah,lenOf,sP];have e:cs.map I.view=cs:=(tR (g:=fun u=>u) ae).trans (List.map_id' cs);rw [if_pos (by omega),sO,tQ (by omega),e];rfl
theorem adr {P:Program} {C:b6} {lo id n m:Nat} {cap:Option Nat} {o:Oper} {x:Operand} {H:List au} {cs:List I} {sz:Nat} (aq:o.op=.move x) (bD:lo≤id) (ah:H[id]?=some (.cells cs)) (CO:n=m) (aN:cs.length=m*sz) (ae:∀ u∈cs,u.view=u) :
  a8 P C lo o 2 [.ref id 0 n cap sz] H=some (.ay cs m (gV cap m),H.set id .dead):=by
 subst CO;exact adq aq bD ah aN ae
theorem aiJ {α:Type} {f:α→I} (h:∀ x,(f x).view=f x) (l:List α):∀ u∈l.map f,u.view=u:=fun u hu=>by
 obtain ⟨x,_,rfl⟩:=ss.1 hu;exact h x
end Go.Proofs.YtfakoboiahbhaaaGreat.Ab


namespace Go.Proofs.YtfakoboiahbhaaaGreat.Ab
open Go
theorem HH {n:Int} (h:-9223372036854775808≤n∧n≤9223372036854775807):w n=n:=ai_ h.1 h.2
theorem rH (i:Nat) (h:i≤9223372036854775806):w ((i:Int)+1)=((i+1:Nat):Int):=q5 i h
theorem IJ {i n:Nat} {aT:Type} {x y:Option aT} (h:i<n):(if (decide ((i:Int)<(n:Int)))=true then x else y)=x:=by rw [if_pos (decide_eq_true (by omega))]
theorem II {i n:Nat} {aT:Type} {x y:Option aT} (h:¬ i<n):(if (decide ((i:Int)<(n:Int)))=true then x else y)=y:=by rw [if_neg (by rw [decide_eq_true_eq];omega)]
theorem Hh {i n:Nat} {aT:Type} {x:Option aT} (h:i<n):p6 (0≤(i:Int)∧(i:Int)<(n:Int)) x=x:=qe ⟨by omega,by omega⟩
end Go.Proofs.YtfakoboiahbhaaaGreat.Ab


namespace Go.Proofs.YtfakoboiahbhaaaGreat.Ab
open Go
def p0 (p:Int×Int):List I:=[hR p.1,hR p.2]
theorem qw (p:Int×Int):(p0 p).length=2:=rfl
theorem V1 {α:Type} (f:α→List I) (s:Nat) (ai:∀ x,(f x).length=s):∀ (l:List α) (k:Nat),k≤l.length→(l.flatMap f).drop (k*s)=(l.drop k).flatMap f
 | l,0,_=>by rw [vo,sO,sO]
 | [],k+1,h=>absurd h (by simp)
 | x::l,k+1,h=>by
   (have e:(k+1)*s=(f x).length+k*s:=by rw [ai,tp,vC,te]);rw [tZ,e,List.drop_length_add_append,V1 f s ai l k (by simpa using h),List.drop_succ_cons]
theorem V3 {α:Type} (f:α→List I) (s:Nat) (ai:∀ x,(f x).length=s):∀ (l:List α) (k:Nat),k≤l.length→(l.flatMap f).take (k*s)=(l.take k).flatMap f
 | l,0,_=>by rw [vo,tf,tf];rfl
 | [],k+1,h=>absurd h (by simp)
 | x::l,k+1,h=>by
   (have e:(k+1)*s=(f x).length+k*s:=by rw [ai,tp,vC,te]);rw [tZ,e,List.take_length_add_append,V3 f s ai l k (by simpa using h),vd,tZ]
theorem Mb {α:Type} (f:α→List I) (s:Nat) (ai:∀ x,(f x).length=s) (l:List α) (n:Int) (h:0≤n∧n≤(l.length:Int)) (c:iq):I.ay ((l.flatMap f).take (n.toNat*s)) n.toNat c=.ay ((l.take n.toNat).flatMap f) (l.take n.toNat).length c:=by
 rw [V3 f s ai l _ (by omega),sR,tq (by omega)]
theorem Pl {α:Type} (f:α→List I) (s:Nat) (ai:∀ x,(f x).length=s) (l:List α) (n:Int) (h:0≤n∧n≤(l.length:Int)) (c:iq):I.ay (((l.flatMap f).drop (n.toNat*s)).take ((l.length-n.toNat)*s)) (l.length-n.toNat) c=.ay ((l.drop n.toNat).flatMap f) (l.drop n.toNat).length c:=by
 rw [V1 f s ai l _ (by omega),tV,tQ (by rw [H0 f s ai,tV];exact sb _)]
theorem VQ (k:IntKind):∀ (xs ys:List Int),xs.length=ys.length→dM (xs.map (.int k)) (ys.map (.int k))=some (decide (xs=ys))
 | [],[],_=>rfl
 | x::xs,y::ys,h=>by
   simp only [se,dM,if_true,VQ k xs ys (by simpa using h),sd];congr 1;by_cases al:x=y <;> by_cases ak:xs=ys <;> simp [al,ak]
 | [],y::ys,h=>by cases h
 | x::xs,[],h=>by cases h
theorem abh {P:Program} {t e:TypeId} {len:Nat} {kd:IntKind} (k:IntKind) (ad:P.underlying t=some (.array len e)) (af:P.underlying e=some (.int kd)) (aG:bS P e=some 1) (a6:P.eqGuardType P.depth t=false) {xs ys:List Int} (al:xs.length=len) (a0:ys.length=len) :
  fj P .eql t (.agg (xs.map (.int k))) (.agg (ys.map (.int k)))=some (.bool (decide (xs=ys))):=by
 unfold fj;simp only [ad,af,aG];rw [if_pos ⟨by simp [al],by simp [a0],a6⟩,VQ k xs ys (by rw [al,a0]),sd]
theorem agi {P:Program} {C:b6} {lo:Nat} {o:Oper} {op:BinOp} {t u:TypeId} {a b:Operand} {x y v:I} {H:List au} (aq:o.op=.binOp op t a b u) (aN:iQ b=false) (h:fj P op t x y=some v):a8 P C lo o 0 [x,y] H=some (v,H):=by
 unfold a8;rw [aq];show (cy P o [x,y]).map _=_;unfold cy;rw [aq];simp only [aN];show (fj P op t x y).map _=_;rw [h];rfl
end Go.Proofs.YtfakoboiahbhaaaGreat.Ab


namespace Go.Proofs.YtfakoboiahbhaaaGreat.Ab
open Go
section
variable {P:Program} {B N:Nat} {J:List Nat} {w:World} {H:List au} {U:Nat→Option aI} {S:Nat→Nat→Prop}
theorem ajc (dJ:P.follows .mixedOrders=true) {l lo:Nat} {fn:FuncId} {T a7:List I} {bh:List Nat} {gu bY:Code} {an:c8} {args:List I} {H':List au} {id:Nat}
  (ak:H[l]?=some (.loop .ready none fn T bh gu bY an)) (ei:hh bh args T=some a7) (pr:ba lo H H')
  (h:c3 P an fn lo (some l) gu 0 ⟨a7,H⟩ fun e s1=>e=.normal∧s1.H[l]?=some (.loop .ready none fn T bh gu bY an) ∧
   c3 P an fn lo (some l) bY 0 ⟨s1.T,s1.H.set l (.loop .busy none fn T bh gu bY an)⟩ fun e s2=>e=.exit id∧s2.H[l]?=some (.loop .busy none fn T bh gu bY an)∧ji (s2.H.set l (.loop .done (some (.exit id)) fn T bh gu bY an)) H') :
  Sem P (.yield l) args H lo (.bool false) H':=by
 refine ⟨pr,fun B U J S w xs b ah _ ae ag=>?_⟩;obtain ⟨a',bk,ar,L,aB,aH,aR,bj,bb,bf,c1,da,dF,fx,ow⟩:=ah.obj l _ ak;rw [ag] at aB;cases aB;have cJ:=xI bh args T a7 xs L.tmps.toList ei ae.len (by simpa using c1.symm);obtain ⟨cb,b8,d_,hp⟩:=cJ;refine ⟨L,aR,by rw [←ae.len,←cb,←dF];simp,?_⟩;refine roundIn_of_wpIn trivial ?_;have l9:(hF L xs).toList=(bh.zip xs).foldl (fun (l:List Value) (p:Nat×Value)=>l.set p.1 p.2) L.tmps.toList:=by rw [Ao,dF]
 obtain ⟨db,fD⟩:=A6 bh ah;have aK:ct B w.heap.size (gM bh U) J S w ⟨a7,H⟩ { tmps:=hF L xs,defers:=[] }:=by
  refine ⟨?_,fD,sb _,fun d aZ=>by simp at aZ,List.Pairwise.nil⟩;simp only [l9];have key:∀ (i:Nat) (u:I) (x:Value),a7[i]?=some u→((bh.zip xs).foldl (fun (l:List Value) (p:Nat×Value)=>l.set p.1 p.2) L.tmps.toList)[i]?=some x →
    Rel J S w u x∧aV (gM bh U) J S w (.slot i) u x:=fun i u x hu al=>by
   rcases hp i u x hu al with ⟨aJ,aP⟩ | ⟨j,aJ,aP,cj⟩
   ·obtain ⟨bR,b4⟩:=da i u x aJ (by simpa using aP);exact ⟨b4,aV.b3 bR⟩
   ·exact ⟨ae.rel j u x aP cj,(ae.own j u x aP cj).mono (Ext.refl J) (fun _ _ h=>⟨h,rfl⟩) fun b ag=>⟨by simp [gM,ag,aJ],rfl,fun _ h=>h⟩⟩
  exact ⟨by rw [b8,d_,←c1];simp,fun i u x hu al=>(key i u x hu al).1,fun i u x hu al=>(key i u x hu al).2⟩
 rw [fx,ow];refine oi dJ gu 0 _ _ h a' _ _ B w.heap.size J w (gM bh U) S _ (.inr ⟨l,b,rfl,ag,rfl⟩) (fun l a w aO=>aO) aK fun e1 s1 av aB bC ai=>?_;obtain ⟨rfl,hz,af⟩:=av;obtain ⟨b2,cQ,a4,aJ,aP,b'⟩:=ai;have eW:cQ[l]?=some b:=aJ _ _ ag;obtain ⟨_,_,ar,jj,d1,d2,d3,d4,d5,_⟩:=b'.H.obj l _ hz;rw [eW] at d1;cases d1;obtain ⟨dZ,oX⟩:=b'.loop hz eW d3 .busy none;have o5:(Instr.beginRound b).run P bC=.ok () (bC.putObj b (.loop { jj with state:=.busy,pending:=none })):=by
  rw [run_beginRound d3 d4]
  have:({ jj with state:=.busy,pending:=none }:Loop)={ jj with state:=.busy }:=by rw [←d5]
  rw [this]
 refine ⟨_,o5,?_⟩;refine wpIn_mono (Q:=fun cM aM w'=>(∀ t,cM≠Exit.goto t)∧roundPost P b (fv B U J S w H' (.bool false)) cM aM w') ?_ (fun e a w h=>h.2);refine oi dJ bY 0 _ _ af bk _ _ B w.heap.size cQ _ b2 a4 _ (.inr ⟨l,b,rfl,eW,rfl⟩) (fun l a w aO=>aO.1 l rfl) oX fun ck s2 av aH bT ai=>?_;obtain ⟨rfl,fa,ks⟩:=av;obtain ⟨bn,cg,bH,cj,jO,lK⟩:=ai;have fm:cg[l]?=some b:=cj _ _ eW;obtain ⟨_,_,ar,iu,f1,f2,f3,f4,f5,_⟩:=lK.H.obj l _ fa;rw [fm] at f1;cases f1;have jw:bg U S w bn bH bT:=((db.trans aP).trans dZ).trans jO;refine ⟨fun t ax=>(by cases ax),?_⟩;refine ⟨_,_,run_endRound (some (.exit id)) f3,?_⟩;obtain ⟨oN,oY⟩:=lK.loop fa fm f3 .done (some (.exit id));exact a1.nc ks ⟨bn,cg,bH,aJ.trans cj,jw.trans oN,oY.H,.bool _,aV.b3 rfl⟩
theorem ahR (dJ:P.follows .mixedOrders=true) {l lo:Nat} {fn:FuncId} {T a7:List I} {bh:List Nat} {gu bY:Code} {an:c8} {args:List I} {H':List au} {id:Nat} {zR zU:eA}
  (cd:dU P an gu 0=some zR) (ag:dU P an bY 0=some zU)
  (ak:H[l]?=some (.loop .ready none fn T bh gu bY an)) (ei:hh bh args T=some a7) (pr:ba lo H H')
  (h:dD P an fn lo (some l) zR a7 H fun e fi H1=>e=.normal∧H1[l]?=some (.loop .ready none fn T bh gu bY an) ∧
   dD P an fn lo (some l) zU fi (H1.set l (.loop .busy none fn T bh gu bY an)) fun e dS a2=>e=.exit id∧a2[l]?=some (.loop .busy none fn T bh gu bY an)∧ji (a2.set l (.loop .done (some (.exit id)) fn T bh gu bY an)) H') :
  Sem P (.yield l) args H lo (.bool false) H' :=
 ajc dJ ak ei pr (k_ (fun e s a3=>⟨a3.1,a3.2.1,w_ ag a3.2.2⟩) (w_ cd h))
end
theorem TH (X Y:List au) (a b d:au):(((X++[a])++Y)++[b]).set X.length d=(((X++[d])++Y)++[b]):=by
 rw [List.set_append_left _ _ (by simp),X1]
theorem Og (X Y:List au) (a b:au):(((X++[a])++Y)++[b])[X.length]?=some a:=by
 rw [sA (by simp),Of]
theorem adg (X:List au) (b:au):ji (X++[b]) (X++[.dead]):=by
 refine ⟨by simp,fun id o h=>?_⟩;rcases sU id X.length with ak | ak
 ·rw [sA ak] at h ⊢;exact .inr h
 ·rw [sL ak] at h;cases av:id-X.length with
  | zero=>rw [av] at h;simp at h;exact .inl h.symm
  | succ k=>rw [av] at h;simp at h
theorem adh (X Y:List au) (a b:au):ji (((X++[a])++Y)++[b]) ((X++[a])++(Y++[.dead])):=by
 rw [←sj];exact adg _ b
end Go.Proofs.YtfakoboiahbhaaaGreat.Ab


namespace Go.Proofs.YtfakoboiahbhaaaGreat.Ab
open Go
theorem Y0 {α:Type} {f:α→I} (h:∀ x,(f x).view=f x) (l:List α):(l.map f).map I.view=l.map f:=by rw [ud];exact tR fun x _=>h x
theorem WK {α:Type} (f:α→I) (l:List α) {n:Nat} (aQ:∀ x,(f x).view=f x) (h:l.length=n):(((l.map f).drop 0).take n).map I.view=l.map f:=by
 rw [sO,tQ (by simp [h]),Y0 aQ]
theorem abi {P:Program} {t e:TypeId} {len:Nat} {kd k:IntKind} {xs:List Int} {n:Int} (ad:P.underlying t=some (.array len e)) (af:P.underlying e=some (.int kd)) (aG:bS P e=some 1) (a6:dK P e=false) (ak:xs.length=len) (aN:0≤n∧n<(len:Int)) :
  ox P t (.agg (xs.map hR)) (.int k n)=some (hR (ix xs n)):=by
 unfold ox;have bL:gR n len=some n.toNat:=by unfold gR;rw [if_pos aN]
 simp only [ad,aG,bL,r_,tD];unfold iz;simp only [af,a6];have aU:n.toNat<xs.length:=by omega
 rw [su,sq aU,sd,OL (by omega)]
theorem agk {P:Program} {C:b6} {lo:Nat} {o:Oper} {t:TypeId} {a b:Operand} {x y v:I} {H:List au} (aq:o.op=.index t a b) (h:ox P t x y=some v) (ae:v.view=v:=by rfl):a8 P C lo o 0 [x,y] H=some (v,H):=by
 unfold a8;rw [aq];show (cy P o [x,y]).map _=_;unfold cy;rw [aq];show ((ox P t x y).map I.view).map _=_;rw [h,sd,sd,ae]
theorem Xf {P:Program} {C:b6} {lo:Nat} {o:Oper} {t e:TypeId} {a:Operand} {id len:Nat} {H:List au} (aq:o.op=.slice t a none none none) (ad:P.underlying t=some (.array len e)) (af:bS P e=some 1) (aS:0<len):a8 P C lo o 0 [.ptr id 0] H=some (.ref id 0 len (some len) 1,H):=by
 unfold a8;rw [aq];show (cy P o [.ptr id 0]).map _=_;unfold cy;rw [aq];show (ej P t none none none [.ptr id 0]).map _=_;unfold ej;simp only [I.view,eU,ad,af,dn,cH,r_];rw [if_neg (by omega)];rfl
theorem Nf {P:Program} {C:b6} {lo mode:Nat} {o:Oper} {xs:Array Operand} {ts:Array TypeId} {vs:List I} {H:List au} (aq:o.op=.call { callee:=.builtin .clear,args:=xs,argTypes:=ts }):a8 P C lo o mode vs H=kT P lo ts H vs:=by
 unfold a8;rw [aq];rfl
theorem XL (z:I):∀ n:Nat,e0 n [z]=List.replicate n z
 | 0=>rfl
 | n+1=>by rw [e0,XL z n];rfl
theorem VC {P:Program} {lo id n:Nat} {H:List au} {l:List Int} {cap:Option Nat} {e:TypeId} {ts:Array TypeId} (e1:(ts[0]?).bind P.underlying=some (.slice e)) (ck:bS P e=some 1) (dG:zeroCells P e=some [.int .i64 0]) (bD:lo≤id)
  (ah:H[id]?=some (.cells (l.map hR))) (aN:l.length=n):kT P lo ts H [.ref id 0 n cap 1]=some (.tuple [],H.set id (.cells ((List.replicate n (0:Int)).map hR))):=by
 have oJ:setCells 0 (e0 n [I.int .i64 0]) (l.map hR)=(List.replicate n (0:Int)).map hR:=by
  apply tO;intro j;rw [n9 _ _ _ _ (by rw [ih];simp;omega),ih,XL];simp only [List.length_singleton,tD,sP,Nat.sub_zero];by_cases aw:j<n
  ·rw [if_pos ⟨by omega,aw⟩];simp [aw]
  ·rw [if_neg (by omega),tB (by simp;omega),tB (by simp;omega)]
 unfold kT;simp only [e1,ck,dG,g9,ah,sd,if_pos bD];rw [if_pos ⟨trivial,rfl,by decide⟩,if_pos (by simp;omega),oJ];rfl
end Go.Proofs.YtfakoboiahbhaaaGreat.Ab


namespace Go.Proofs.YtfakoboiahbhaaaGreat.Ab
open Go
def Ki:List I→Nat→List (Nat×I)→List I
 | [],_,_=>[]
 | x::T,_,[]=>x::T
 | x::T,i,(j,v)::r=>match Nat.beq i j with
   | true=>v::Ki T (i+1) r
   | false=>x::Ki T (i+1) ((j,v)::r)
def HG (u:Nat→I):Nat→Nat→List (Nat×I)→List I
 | 0,_,_=>[]
 | n+1,i,[]=>u i::HG u n (i+1) []
 | n+1,i,(j,v)::r=>match Nat.beq i j with
   | true=>v::HG u n (i+1) r
   | false=>u i::HG u n (i+1) ((j,v)::r)
def q7 (n:Nat) (bh:List (Nat×I)) (T:List I):Prop:=T.length=n∧T=Ki T 0 bh
theorem Pm {u bG:Nat→I}:∀ (n i:Nat) (bh:List (Nat×I)),(∀ k,i≤k→u k=bG k)→HG u n i bh=HG bG n i bh
 | 0,_,_,_=>rfl
 | n+1,i,[],h=>by
   rw [HG,HG,h i (sb _),Pm n (i+1) [] fun k av=>h k (by omega)]
 | n+1,i,(j,v)::r,h=>by
   rw [HG,HG];cases Nat.beq i j with
   | true=>exact congrArg _ (Pm n (i+1) r fun k av=>h k (by omega))
   | false=>show u i::_=bG i::_;rw [h i (sb _),Pm n (i+1) _ fun k av=>h k (by omega)]
theorem X6:∀ (T:List I) (i:Nat) (bh:List (Nat×I)),Ki T i bh=HG (fun k=>c5 T (k-i)) T.length i bh
 | [],_,_=>rfl
 | x::T,i,bh=>by
   have e:∀ bh,HG (fun k=>c5 (x::T) (k-i)) T.length (i+1) bh=Ki T (i+1) bh:=fun bh=>by
    rw [X6 T (i+1) bh];refine Pm _ _ _ fun k av=>?_;show c5 (x::T) (k-i)=c5 T (k-(i+1));rw [show k-i=(k-(i+1))+1 by omega];rfl
   (have fT:c5 (x::T) (i-i)=x:=by rw [Nat.sub_self];rfl);(have ac8:∀ (T:List I) i,Ki T i []=T:=fun T i=>by cases T <;> rfl);cases bh with
   | nil =>
     show x::T=HG _ (T.length+1) i [];rw [HG,fT,e,ac8]
   | cons p r =>
     obtain ⟨j,v⟩:=p;show Ki (x::T) i ((j,v)::r)=HG _ (T.length+1) i ((j,v)::r);rw [Ki,HG];cases Nat.beq i j with
     | true=>exact congrArg _ (e r).symm
     | false=>show x::_=_::_;rw [fT,e]
theorem q7.ex {n:Nat} {bh:List (Nat×I)} {T:List I} (h:q7 n bh T):∃ u,T=HG u n 0 bh:=by
 obtain ⟨ad,af⟩:=h;subst ad;exact ⟨_,af.trans (X6 T 0 bh)⟩
class Hj (d:Nat) (v:I):Prop where OZ:cq d v=true
class qf (d:Nat) (l:List I):Prop where pl:l.all (cq d)=true
instance {d:Nat}:qf d []:=⟨rfl⟩
instance {d:Nat} {v:I} {l:List I} [a:Hj d v] [b:qf d l]:qf d (v::l):=⟨pY a.OZ b.pl⟩
instance {d:Nat} {a b:List I} [x:qf d a] [y:qf d b]:qf d (a++b):=⟨by rw [List.all_append,x.pl,y.pl];rfl⟩
instance {d:Nat} {α:Type} {f:α→I} {l:List α} [h:∀ x,Hj d (f x)]:qf d (l.map f):=⟨Xr (fun x=>(h x).OZ) l⟩
instance {d:Nat} {α:Type} {f:α→List I} {l:List α} [h:∀ x,qf d (f x)]:qf d (l.flatMap f):=⟨by
 rw [sC];intro u hu;obtain ⟨x,_,al⟩:=vb.1 hu
 exact sC.1 (h x).pl u al⟩
instance {d:Nat} {k:IntKind} {n:Int}:Hj (d+1) (.int k n):=⟨rfl⟩
instance {d:Nat} {b:Bool}:Hj (d+1) (.bool b):=⟨rfl⟩
instance {d:Nat} {b:ByteArray}:Hj (d+1) (.str b):=⟨rfl⟩
instance {d:Nat}:Hj (d+1) .eD:=⟨rfl⟩
instance {d n:Nat} {c:iq} {l:List I} [h:qf d l]:Hj (d+1) (.ay l n c):=⟨h.pl⟩
instance {d:Nat} {l:List I} [h:qf d l]:Hj (d+1) (.agg l):=⟨h.pl⟩
instance {d:Nat} {l:List I} [h:qf d l]:Hj (d+1) (.tuple l):=⟨h.pl⟩
instance {d:Nat} {l:List I} [h:qf d l]:Hj (d+1) (.bU l):=⟨h.pl⟩
instance {d:Nat} {α:Type} {f:α→I} {l:List α} [h:∀ x,Hj d (f x)]:Hj (d+1) (abe f l):=⟨Xr (fun x=>(h x).OZ) l⟩
instance {d:Nat} {α:Type} {f:α→List I} {l:List α} [h:∀ x,qf d (f x)]:Hj (d+1) (qy f l):=⟨(inferInstance:qf d (l.flatMap f)).pl⟩
instance {d:Nat} {l:List Int}:Hj (d+2) (jj l):=⟨(inferInstance:qf (d+1) (l.map hR)).pl⟩
instance {d:Nat} {l:List (List Int)}:Hj (d+3) (iu l):=⟨(inferInstance:qf (d+2) (l.map jj)).pl⟩
instance {d:Nat} {α:Type} {f:α→List I} {x:Option α} [h:∀ x,qf d (f x)]:Hj (d+1) (OX f x):=⟨Xq (fun x=>(h x).pl) x⟩
theorem qm {p Jn:Prop} [Decidable p] {aT:Type} {k:Option aT} {v:aT} {K:Prop} (h:p6 p k=some v) (f:p→Jn) (g:p→k=some v→K):Jn∧K :=
 ⟨f (qJ h).1,g (qJ h).1 (qJ h).2⟩
theorem bs {b:Bool} {aT:Type} {x y:Option aT} {v:aT} {K:Prop} (h:(if b=true then x else y)=some v) (f:b=true→x=some v→K) (g:b=false→y=some v→K):K :=
 match b,h,f,g with
 | true,h,f,_=>f rfl (GL rfl h)
 | false,h,_,g=>g rfl (GK rfl h)
theorem agB {d:Nat} {u:I} (h:cq d u.gT=true):cq d u=true:=by
 cases d with
 | zero=>simp [cq] at h
 | succ d=>cases u with
   | ay cs n c=>cases c <;> exact h
   | _=>exact h
theorem Xp {d:Nat} {l:List I} (h:(l.map I.gT).all (cq d)=true):l.all (cq d)=true:=by
 rw [sC] at h ⊢;exact fun u hu=>agB (h _ (List.mem_map_of_mem hu))
theorem agA {d:Nat} {r:I} (h:cq d r.settle.view.cr=true):cq d r=true:=by
 cases d with
 | zero=>simp [cq] at h
 | succ d=>cases r with
   | ay cs n c=>cases c <;> exact h
   | agg cs=>exact Xp (l:=cs) h
   | tuple cs=>exact Xp (l:=cs) h
   | raw=>exact absurd h (by simp [I.settle,I.view,I.cr,cq])
   | cl=>exact absurd h (by simp [I.settle,I.view,I.cr,cq])
   | _=>exact h
theorem Kg {rs:List jk} {v:I} {T:List I} {H:List au} {vs:List I} [h:Hj 8 v] (ad:j1 H T rs=some vs) (af:(hb vs).settle.view.cr=v):HW rs v .ret T H :=
 ⟨.inr rfl,vs,ad,_,oT (agA (af ▸ h.OZ)),af⟩
end Go.Proofs.YtfakoboiahbhaaaGreat.Ab


namespace Go.Proofs.YtfakoboiahbhaaaGreat.Ab
open Go
section
variable {P:Program} {A:c8} {fn:FuncId} {lo:Nat} {rl:Option Nat}
inductive akF (P:Program) (A:c8) (fn:FuncId) (lo:Nat) (rl:Option Nat) (rc:eA) (T:List I) (H:List au) (Q:cB→List I→List au→Prop):Prop where
 | mk (cD:List Bool) (c:eA) (he:rc=.loop (some cD) c) (hR:Nat→List I→List au→Prop) (m:Nat) (hm:m≤p8) (aS:hR m T H)
   (step:∀ (rr:List I→List au→Prop) m T H,hR m T H→(∀ g6 a7 H',g6<m→hR g6 a7 H'→rr a7 H')→nQ T fun T=>dD P A fn lo rl c T H fun e a7 H'=>match e with
    | .normal=>pT (some cD) a7 fun a7=>rr a7 H'
    | e=>Q e a7 H')
end
theorem ajd {P:Program} {A:c8} {fn lo:Nat} {rl:Option Nat} {c:eA} {T:List I} {H:List au} {Q:cB→List I→List au→Prop} (h:dD P A fn lo rl c T (H++[]) Q):dD P A fn lo rl c T H Q:=by
 rw [sN] at h;exact h
theorem O2 {cs:List I} {n d:Nat} {c:iq} (h:cs.all (cq d)=true):cq (d+1) (.ay cs n c)=true:=h
theorem Vk (A Y C:List au):(A++Y)++C=A++(Y++C):=sj _ _ _
theorem LC (X:List au) (a:au):(X++[a,.dead])[X.length]?=some a:=by simp
theorem X0 (X:List au) (a aM:au):(X++[a,.dead]).set X.length aM=X++[aM,.dead]:=by simp
theorem V7 {P:Program} {C:b6} {lo id gid n z:Nat} {o:Oper} {x:Operand} {H:List au} {l:List I} {g cU:Nat} (aq:o.op=.move x) (bD:lo≤id) (ah:H[id]?=some (.grow l g cU)) (aN:l.length=n*z) :
  a8 P C lo o 2 [.cl id gid n z] H=some (.ay (l.map I.view) n .shared,H.set id .dead):=by
 unfold a8;rw [aq];show eS P lo 2 o.type x H [.cl id gid n z]=_;unfold eS;simp only [bD,if_true,ah];rw [if_pos aN]
def ahI (l:List Int):I:=.ay (l.map hR) l.length (if l.length=1 then .full else .shared)
theorem Rel.rows {J:List Nat} {S:Nat→Nat→Prop} {w:World} {cells:List I} {n:Nat} {v:Value} (h:Rel J S w (.ay cells n .shared) v):Rel J S w (.ay (cells.map I.gT) n .shared) v:=by
 cases h with
 | b1 _ a=>exact .b1 _ a
 | ay _ _ _ b o cap f ao hle hu k eO =>
   refine .ay _ _ _ b o cap f ao hle hu (fun j u aw=>?_) (fun j u aw=>?_)
   ·rw [su] at aw;simp only [rZ] at aw;obtain ⟨x,al,rfl⟩:=aw;obtain ⟨aB,aH,aR,bj⟩:=k j x al;exact ⟨aB,aH,ye aR,bj⟩
   ·rw [su] at aw;simp only [rZ] at aw;obtain ⟨x,al,rfl⟩:=aw;exact (eO j x al).gT
theorem lh.rows {P:Program} {k:FuncId} {args cells:List I} {n:Nat} (h:lh P k args (.ay cells n .shared)) (aC:cq 8 (.ay (cells.map I.gT) n .shared)=true):lh P k args (.ay (cells.map I.gT) n .shared) :=
 ⟨⟨h.1.1,h.1.2.1,fun B U J S w vs ah aN ae=>CallsIn.mono (h.1.2.2 B U J S w vs ah aN ae) fun e w' he=>by
   cases e with
   | returned x =>
     obtain ⟨bn,cg,bH,a,b,c,d,e⟩:=he;exact ⟨bn,cg,bH,a,b,c,d.rows,aV.b3 rfl⟩
   | panicked c=>exact he.elim
   | outgrown=>exact he.elim⟩,aC⟩
end Go.Proofs.YtfakoboiahbhaaaGreat.Ab


namespace Go.Proofs.YtfakoboiahbhaaaGreat.Ab
open Go
instance {d:Nat} {p:Int×Int}:qf (d+1) (p0 p):=⟨(inferInstance:qf (d+1) [hR p.1,hR p.2]).pl⟩
instance {d:Nat} {l:List Int}:Hj (d+2) (ahI l):=⟨(inferInstance:qf (d+1) (l.map hR)).pl⟩
end Go.Proofs.YtfakoboiahbhaaaGreat.Ab


namespace Go.Proofs.YtfakoboiahbhaaaGreat.Ab
open Go
abbrev qa:=List Int
abbrev qc:=List (Int×Int)
abbrev GJ:=List (List Int)
abbrev qt:=List (List (Int×Int))
abbrev qb:=Int×List (Int×Int)
abbrev rp:=cB→List I→List au→Prop
abbrev qj (l:List Int) (c:iq):I:=.ay (l.map hR) l.length c
abbrev p7 (l:List (Int×Int)) (c:iq):I:=.ay (l.flatMap p0) l.length c
abbrev akJ (b:Int×List (Int×Int)):I:=.agg [hR b.1,.ay (b.2.flatMap p0) b.2.length .shared]
abbrev G' (b:Int×List (Int×Int)):au:=au.cells [hR b.1,.ay (b.2.flatMap p0) b.2.length .shared]
def qn {aT:Type} (rs:List jk) (Q:cB→List I→List au→Prop) (e:aT→I) (v:aT):Prop:=∀ T H,HW rs (e v) .ret T H→Q .ret T H
theorem p4 {aT:Type} {x v:aT} {e:aT→I} {rs:List jk} {Q:cB→List I→List au→Prop} {T:List I} {H:List au} {vs:List I} (h:some x=some v) (jy:qn rs Q e v) [k:Hj 8 (e x)] (ad:j1 H T rs=some vs) (af:(hb vs).settle.view.cr=e x):Q .ret T H:=by
 obtain rfl:=Option.some.inj h;exact jy _ _ (Kg ad af)
class ql (H:List au) (i:Nat) (o:outParam au):Prop where h:H[i]?=some o
instance {H:List au} {o:au}:ql (H++[o]) H.length o:=⟨IH _ _⟩
instance {H:List au} {i:Nat} {o p:au} [k:ql H i o]:ql (H++[p]) i o:=⟨qA k.h⟩
end Go.Proofs.YtfakoboiahbhaaaGreat.Ab


namespace Go.Proofs.YtfakoboiahbhaaaGreat.Ab
open Go Go.ChangeShapes Go.WideShapes Go.ChangeAt Go.RowKit
def S0 (w:World):Nat→Nat→Prop:=fun b o=>∃ v,w.cell? ⟨b,o,none⟩=some v
theorem l6 (w:World):aL w.heap.size (fun _=>none) [] (S0 w) w [] :=
 ⟨rfl,fun _ _ h=>by simp at h,fun _ _ h=>h,fun _ _ h=>by simp at h,sb _⟩
theorem YN {P:Program} {k:FuncId} {args:List I} {vs:List Value} {W:World} {b:Bool} (h:lh P k args (.bool b)) (ae:a9 (fun i=>.arg i) (fun _=>none) [] (S0 W) W args vs) :
  Calls P k vs.toArray W fun e HX=>e=.returned (.bool b)∧Below W.heap.size W HX:=by
 have ad:=h.1.2.2 W.heap.size (fun _=>none) [] (S0 W) W vs (l6 W) (fun _ _ h=>by simp at h) ae;refine (callsIn_wide.1 ad).mono fun e HX he=>?_;cases e with
 | returned v =>
   obtain ⟨az,bZ,S',_,aA,_,aj,_⟩:=he;cases aj;exact ⟨rfl,aA.os,aA.tape,aA.output,aA.size,fun b ag=>aA.cD b ag rfl⟩
 | panicked c=>exact he.elim
 | outgrown=>exact he.elim
section
variable {H:Type} {enc:TypeId×Value→H} {P:Program} {w:World}
theorem Uv {W HX:World} (K:Kids P (·<P.types.size)) (bP:∀ t e,t<P.types.size→P.underlying t=some (.slice e)→0<P.cellsOf e) (p2:Below W.heap.size W HX) {sp:Nat→Bool} :
  ∀ {ts:List TypeId} {vs:List Value} {ds:List (DataW H)} {p:List MemPlace},(∀ t∈ts,t<P.types.size)→DataW.TrodAll enc P W 0 (fun _=>true) true ts vs ds p→(∀ x∈p,sp x.block=true)→(∀ x∈p,x.block<W.heap.size)→DataW.TrodAll enc P HX 0 sp true ts vs ds p
 | [],_,_,_,_,aK,_,_=>by obtain ⟨rfl,rfl,rfl⟩:=trodAll_nil aK;exact trodAll_mk0
 | t::ts,_,_,_,bX,aK,LO,aU=>by
   obtain ⟨v,vs,d,ds,a,b,rfl,rfl,rfl,⟨n,aN⟩,af⟩:=trodAll_cons aK;refine ⟨a,b,⟨n,?_⟩,Uv K bP p2 (fun t ax=>bX t (tX _ ax)) af (fun x al=>LO x (v8 _ al)) (fun x al=>aU x (v8 _ al)),rfl⟩;exact DataW.trod_stays K (fun {t e} ax he=>bP t e ax he) (fun h=>by cases h) (bX t ur) aN (fun x al=>p2.same (aU x (ve _ al))) fun x al=>LO x (ve _ al)
theorem Xo {f:Func} {s:ChangeSpec} {again:Bool} {W HX:World} {args:Array Value} {t:TypeId} {ds gs:List (DataW H)} {before:List MemPlace}
  (ak:laidOutB P=true) (hm:mapsRowed P=true) (bm:((List.range P.types.size).all fun t=>match P.underlying t with | some (.slice e)=>decide (0<P.cellsOf e) | _=>true)=true)
  (ax:f.resultTypes=#[t]) (J_:P.underlying t=some .bool) (CS:f.params.toList.all (fun t=>decide (t<P.types.size))=true) (RV:s.vars=[])
  (lO:DataW.Whole enc P f.params.toList s.vars false W args.toList ds gs before) (p2:Below W.heap.size W HX)
  (ai:s.fn H (ds++gs)={ results:=[.lit (.bool true)],args:=ds }):s.post enc P f false true false again W args (.bool true) HX:=by
 have aU:=lO.lt;have adF:=lO;obtain ⟨p,q,aK,jz,rfl,Cs,jI⟩:=adF;rw [RV] at jz;obtain ⟨rfl,rfl⟩:=trodVars_none jz;rw [sN] at *;have K:Kids P (·<P.types.size):=kids_rows ak hm;have bP:=slices_full_of P bm;have bX:∀ t∈f.params.toList,t<P.types.size:=fun t h=>by
  have:=sC.1 CS t h;simpa using this
 have again:∀ sp:Nat→Bool,(∀ x∈p,sp x.block=true)→DataW.TrodAll enc P HX 0 sp true f.params.toList args.toList ds p:=fun sp LO =>
  Uv K bP p2 bX aK LO aU
 have kC:∀ (b:Nat) (sp:Nat→Bool) (aZ:Bool),DataW.TrodAll enc P HX b sp aZ f.resultTypes.toList ((Value.bool true).resultList f.resultTypes.size) (s.fn H ds).results []:=fun b sp aZ=>by
  rw [ai,ax];exact trodAll_mk1 (shut_bool J_ true)
 have B':∀ sp:Nat→Bool,(∀ x∈p,sp x.block=true)→DataW.TrodAll enc P HX 0 sp true f.params.toList args.toList (s.fn H ds).args p:=fun sp LO=>by
  rw [ai];exact again sp LO
 have ae:∀ sp:Nat→Bool,DataW.TrodVars enc P HX sp s.vars (s.fn H ds).vars []:=fun sp=>by
  rw [ai,RV];rfl
 have hold:∀ x∈p,(fun b=>decide (b<W.heap.size)) x.block=true:=fun x al=>by simpa using aU x al
 refine ⟨ds,[],p,[],p,[],lO,by rw [sN];exact kC _ _ _,by rw [sN];exact B' _ hold,by rw [sN];exact ae _,p2.frame _,fun _=>?_⟩;refine ⟨fun j u r hu aj=>?_,(s.fn H ds).results++(s.fn H ds).args,[],p,⟨p,[],?_,?_,by simp,?_,fun h=>by cases h⟩,fun x al _=>al⟩
 ·rw [ax] at hu aj;cases j with
  | zero=>simp [Value.resultList] at hu aj;subst hu;subst aj;exact okWide_bool_mk J_ true
  | succ j=>simp at hu
 ·have:=trodAll_append (B' (fun _=>true) fun _ _=>rfl) (kC 0 (fun _=>true) true);simpa using this
 ·rw [RV];rfl
 ·intro b o ag;have:=aU _ ag;rw [p2.frozen (p:=⟨b,o,none⟩) this];exact Cs b o ag
abbrev ME (enc:TypeId×Value→H) (P:Program) (w:World) (e:TypeId) (Q:I→Prop):Prop :=
 ∀ n v y,DataW.trod enc P w 0 (fun _=>true) true n e [v]=some y→∃ u,u.plain=true∧v.oneCell'=true∧Rel [] (S0 w) w u v∧Q u
theorem acA {e:TypeId} {k:IntKind} (ax:P.underlying e=some (.int k)):ME enc P w e fun u=>∃ x,u=.int k x∧(Lit.int k x).wf=true:=by
 intro n v y h;obtain ⟨x,al,_,hw⟩:=DataW.trod_int ax h;injection al with al _;subst al;exact ⟨.int k x,rfl,rfl,.int k x,x,rfl,hw⟩
instance:Inhabited I:=⟨.junk⟩
def I9 (x:Int):Prop := -9223372036854775808≤x∧x≤9223372036854775807
theorem wf_i64 {x:Int} (h:(Lit.int .i64 x).wf=true):I9 x:=by
 have ad:IntKind.i64.min=-9223372036854775808:=rfl;have af:IntKind.i64.max=9223372036854775807:=rfl;simp only [Lit.wf,sx,decide_eq_true_eq] at h;exact ⟨by omega,by omega⟩
theorem wf_u8 {x:Int} (h:(Lit.int .u8 x).wf=true):0≤x∧x≤255:=by
 have ad:IntKind.u8.min=0:=rfl;have af:IntKind.u8.max=255:=rfl;simp only [Lit.wf,sx,decide_eq_true_eq] at h;exact ⟨by omega,by omega⟩
structure abd (l:List Int):Prop where
 n:l.length≤9223372036854775807
 v:∀ x∈l,I9 x
structure aky (l:List (List Int)):Prop where
 n:l.length≤9223372036854775807
 v:∀ r∈l,abd r
theorem afZ {n:Nat} (h:n≤maxLen):n≤9223372036854775807:=by unfold maxLen at h;omega
structure akA (l:List Int):Prop where
 n:l.length≤9223372036854775807
 v:∀ x∈l,0≤x∧x≤255
abbrev Arg (enc:TypeId×Value→H) (P:Program) (w:World) (base:Nat) (t:TypeId) (Q:I→Prop):Prop :=
 ∀ v d p,Value.okWide P w .any base t v→DataW.Trod enc P w 0 (fun _=>true) true t v d p→∃ u,u.plain=true∧Rel [] (S0 w) w u v∧Q u
theorem acn {base:Nat} {t:TypeId} {k:IntKind} (ax:P.underlying t=some (.int k)):Arg enc P w base t fun u=>∃ x,u=.int k x∧(Lit.int k x).wf=true:=by
 intro v d p ae aZ;obtain ⟨x,rfl,_,_,hw⟩:=open_int ax ae aZ;exact ⟨.int k x,rfl,.int k x,x,rfl,hw⟩
theorem Y1 {us:List I} {vs:List Value} (h:us.length=vs.length) (aj:∀ (i:Nat) (u:I) (v:Value),us[i]?=some u→vs[i]?=some v→u.plain=true∧Rel [] (S0 w) w u v):a9 (fun i=>.arg i) (fun _=>none) [] (S0 w) w us vs :=
 ⟨h,fun i u v hu ae=>(aj i u v hu ae).2,fun i u v hu ae=>aV.b3 (aj i u v hu ae).1⟩
theorem aiK {xS:I} {v0:Value} (Kf:xS.plain=true) (hD:Rel [] (S0 w) w xS v0):a9 (fun i=>.arg i) (fun _=>none) [] (S0 w) w [xS] [v0] :=
 Y1 rfl fun i u v hu ae=>by
  match i with
  | 0=>simp at hu ae;subst hu;subst ae;exact ⟨Kf,hD⟩
  | i+1=>simp at hu
theorem aiL {xS ft gi:I} {v0 v1 v2:Value} (Kf:xS.plain=true) (hD:Rel [] (S0 w) w xS v0) (bR:ft.plain=true) (r1:Rel [] (S0 w) w ft v1) (b4:gi.plain=true) (r2:Rel [] (S0 w) w gi v2) :
  a9 (fun i=>.arg i) (fun _=>none) [] (S0 w) w [xS,ft,gi] [v0,v1,v2] :=
 Y1 rfl fun i u v hu ae=>by
  match i with
  | 0=>simp at hu ae;subst hu;subst ae;exact ⟨Kf,hD⟩
  | 1=>simp at hu ae;subst hu;subst ae;exact ⟨bR,r1⟩
  | 2=>simp at hu ae;subst hu;subst ae;exact ⟨b4,r2⟩
  | i+3=>simp at hu
end
end Go.Proofs.YtfakoboiahbhaaaGreat.Ab


namespace Go.Proofs.YtfakoboiahbhaaaGreat.Ab
open Go Go.ChangeShapes Go.WideShapes Go.ChangeAt Go.RowKit
section
variable {H:Type} {enc:TypeId×Value→H} {P:Program} {w:World}
theorem W1 {α β:Type} {f:α→β} {R:α→Prop}:∀ {l:List β},(∀ u∈l,∃ x,u=f x∧R x)→∃ gj:List α,l=gj.map f∧∀ x∈gj,R x
 | [],_=>⟨[],rfl,by simp⟩
 | u::l,h=>by
   obtain ⟨x,rfl,al⟩:=h u (by simp);obtain ⟨gj,rfl,bm⟩:=W1 (l:=l) fun y a0=>h y (by simp [a0]);exact ⟨x::gj,rfl,by simpa using ⟨al,bm⟩⟩
def N2 (enc:TypeId×Value→H) (P:Program) (w:World) (bE:Array Field) (Qs:List (I→Prop)):Prop :=
 Qs.length=bE.size∧∀ (i:Nat) (f:Field) (q:I→Prop),bE[i]?=some f→Qs[i]?=some q→f.offset=i∧P.cellsOf f.type=1∧ME enc P w f.type q
def Ls (Qs:List (I→Prop)) (us:List I):Prop:=us.length=Qs.length∧∀ (i:Nat) (u:I) (q:I→Prop),us[i]?=some u→Qs[i]?=some q→q u
theorem X' {t:TypeId} {bE:Array Field} {Qs:List (I→Prop)} (ax:P.underlying t=some (.struct bE)) (ao:P.cellsOf t=bE.size) (aQ:N2 enc P w bE Qs) {n:Nat} {cs:List Value} {y:DataW H×List MemPlace}
  (h:DataW.trod enc P w 0 (fun _=>true) true n t cs=some y):∃ us:List I,Ls Qs us∧cs.length=us.length∧∀ (j:Nat) (u:I) (v:Value),us[j]?=some u→cs[j]?=some v→u.plain=true∧v.oneCell'=true∧Rel [] (S0 w) w u v:=by
 obtain ⟨xs,m,_,_,ak,ald,al⟩:=DataW.trod_struct ax h;rw [ao] at ak;have each:∀ i,i<bE.size→∃ u:I,(∀ v,cs[i]?=some v→u.plain=true∧v.oneCell'=true∧Rel [] (S0 w) w u v)∧∀ q,Qs[i]?=some q→q u:=fun i hi=>by
  have ad:bE[i]?=some bE[i]:=Array.getElem?_eq_getElem hi;have a3:i<Qs.length:=by rw [aQ.1];exact hi
  have af:Qs[i]?=some Qs[i]:=sq a3;obtain ⟨e1,ck,dG⟩:=aQ.2 i _ _ ad af;have aG:=al i _ ad;rw [e1,ck] at aG;have Wr:i<cs.length:=by omega
  rw [sT Wr,sq (by omega)] at aG;simp only [vd,tf] at aG;obtain ⟨u,aB,aH,aR,bj⟩:=dG _ _ _ aG;refine ⟨u,fun v ae=>?_,fun q CT=>?_⟩
  ·rw [sq Wr] at ae;cases ae;exact ⟨aB,aH,aR⟩
  ·rw [af] at CT;cases CT;exact bj
 obtain ⟨ID,LH⟩:=Deep.choose_lt (α:=I) (n:=bE.size) (p:=fun i u=>(∀ v,cs[i]?=some v→u.plain=true∧v.oneCell'=true∧Rel [] (S0 w) w u v)∧∀ q,Qs[i]?=some q→q u) each;have get:∀ (i:Nat) (u:I),((List.range bE.size).map ID)[i]?=some u→i<bE.size∧u=ID i:=fun i u hu=>by
  have hi:i<bE.size:=by have:=(sa.1 hu).1;simpa using this
  simp [hi] at hu;exact ⟨hi,hu.symm⟩
 refine ⟨(List.range bE.size).map ID,⟨by simp [aQ.1],fun i u q hu a3=>?_⟩,by simp [ak],fun j u v hu ae=>?_⟩
 ·obtain ⟨hi,rfl⟩:=get i u hu;exact (LH i hi).2 q a3
 ·obtain ⟨hi,rfl⟩:=get j u hu;exact (LH j hi).1 v ae
theorem aco {base:Nat} {t:TypeId} {bE:Array Field} {Qs:List (I→Prop)} (ax:P.underlying t=some (.struct bE)) (ao:P.cellsOf t=bE.size) (aQ:N2 enc P w bE Qs):Arg enc P w base t fun u=>∃ us,u=.agg us∧Ls Qs us:=by
 intro v d p ae ⟨n,aZ⟩;unfold Value.okWide at ae;rw [ax] at ae;obtain ⟨cs,rfl,bP,_⟩:=ae;obtain ⟨us,ad,af,aG⟩:=X' ax ao aQ aZ;have af:cs.toList.length=us.length:=af;refine ⟨.agg us,rfl,.agg us cs (by simpa using af) (fun u hu=>?_) (fun v ae=>?_) fun j u v hu ae=>?_,us,rfl,ad⟩
 ·obtain ⟨j,aw⟩:=tF.1 hu;have aU:j<cs.toList.length:=by rw [af];exact (sa.1 aw).1
  exact (aG j u _ aw (sq aU)).1
 ·obtain ⟨j,aw⟩:=tF.1 ae;have aU:j<us.length:=by rw [←af];exact (sa.1 aw).1
  exact (aG j _ v (sq aU) aw).2.1
 ·exact (aG j u v hu (by show cs.toList[j]?=some v;simpa using ae)).2.2
theorem V4 {s:Nat}:∀ {L:List (List I)} {j:Nat} {u:I},(∀ l∈L,l.length=s)→0<s→L.flatten[j]?=some u→∃ l,L[j / s]?=some l∧l[j % s]?=some u
 | [],j,u,_,_,h=>by simp at h
 | l::L,j,u,ak,ai,h=>by
   have aS:l.length=s:=ak l (by simp);rw [List.flatten_cons] at h;by_cases aw:j<s
   ·rw [sA (by omega)] at h;exact ⟨l,by rw [Nat.div_eq_of_lt aw];rfl,by rw [Nat.mod_eq_of_lt aw];exact h⟩
   ·rw [sL (by omega),aS] at h;obtain ⟨k,a,b⟩:=V4 (s:=s) (fun x al=>ak x (by simp [al])) ai h;(have e1:j / s=(j-s) / s+1:=by rw [Nat.div_eq_sub_div ai (by omega)]);(have ck:j % s=(j-s) % s:=by rw [Nat.mod_eq_sub_mod (by omega)]);exact ⟨k,by rw [e1];simpa using a,by rw [ck];exact b⟩
theorem acC {t e:TypeId} {bE:Array Field} {Qs:List (I→Prop)} (ax:P.underlying t=some (.slice e)) (he:P.underlying e=some (.struct bE)) (ao:P.cellsOf e=bE.size) (aS:0<bE.size) (aQ:N2 enc P w bE Qs) :
  ME enc P w t fun u=>∃ L:List (List I),u=.ay L.flatten L.length .shared∧L.length≤maxLen∧∀ us∈L,Ls Qs us:=by
 intro fuel v x h;rcases Deep.open_slice ax h with ⟨ae,_⟩ | ⟨a,len,cap,m,n,D,akI,ae,_,ak,hm,pv,_,al⟩
 ·injection ae with ae _;subst ae;exact ⟨_,rfl,rfl,.b1 _ _,[],rfl,sr _,by simp⟩
 ·injection ae with ae _;subst ae;have pv:m=cap:=pv;by_cases Cc:cap=0
  ·(subst Cc;obtain rfl:len=0:=by omega);exact ⟨_,rfl,rfl,.b1 _ _,[],rfl,sr _,by simp⟩
  ·have each:∀ i,i<len→∃ q:List I×List Value,Ls Qs q.1∧q.2.length=bE.size∧w.cells? 0 (a.add (i*bE.size)) bE.size=some q.2∧∀ (j:Nat) (u:I) (v:Value),q.1[j]?=some u→q.2[j]?=some v→u.plain=true∧v.oneCell'=true∧Rel [] (S0 w) w u v:=fun i hi=>by
    obtain ⟨c9,ad,af⟩:=al i (by omega);rw [ao] at ad;obtain ⟨us,bo,cI,eB⟩:=X' he ao aQ af;exact ⟨(us,c9),bo,by have:=bo.1;rw [cI,this,aQ.1],ad,eB⟩
   obtain ⟨q0,_,_,aet,_⟩:∃ q:List Value,True∧True∧w.cells? 0 (a.add (0*bE.size)) bE.size=some q∧True:=by
    obtain ⟨c9,ad,_⟩:=al 0 (by omega);rw [ao] at ad;exact ⟨c9,trivial,trivial,ad,trivial⟩
   obtain ⟨b,o,sp⟩:=a;have ai:sp=none:=by
    obtain ⟨_,hlen,bu⟩:=World.cells?_some aet;have:=bu 0 aS;rw [sq (by omega)] at this;simpa [Addr.add] using World.cell?_spot this
   subst ai;obtain ⟨ID,LH⟩:=Deep.choose_lt (α:=List I×List Value) (n:=len) (p:=fun i q=>Ls Qs q.1∧q.2.length=bE.size∧w.cells? 0 (Addr.add ⟨b,o,none⟩ (i*bE.size)) bE.size=some q.2∧∀ (j:Nat) (u:I) (v:Value),q.1[j]?=some u→q.2[j]?=some v→u.plain=true∧v.oneCell'=true∧Rel [] (S0 w) w u v) each;(have adE:∀ i,i<len→(ID i).1.length=bE.size:=fun i hi=>by have:=(LH i hi).1.1;rw [this,aQ.1]);have c_:∀ l∈((List.range len).map fun i=>(ID i).1),l.length=bE.size:=fun l dB=>by
    obtain ⟨i,hi,rfl⟩:=ss.1 dB;exact adE i (sJ.1 hi)
   let V:Nat→Value:=fun j=>((ID (j / bE.size)).2)[j % bE.size]!
   have key:∀ (j:Nat) (u:I),(((List.range len).map fun i=>(ID i).1).flatten)[j]?=some u→w.cell? ⟨b,o+j,none⟩=some (V j)∧u.plain=true∧(V j).oneCell'=true∧Rel [] (S0 w) w u (V j):=fun j u aw=>by
    obtain ⟨l,cb,b8⟩:=V4 c_ aS aw;(have hi:j / bE.size<len:=by have:=(sa.1 cb).1;simpa using this);simp [hi] at cb;subst cb;obtain ⟨a',bk,bq,b7⟩:=LH _ hi;have aek:j % bE.size<bE.size:=Nat.mod_lt _ aS;have ae:(ID (j / bE.size)).2[j % bE.size]?=some (V j):=by
     show _=some ((ID (j / bE.size)).2[j % bE.size]!);rw [sq (by omega),getElem!_pos _ _ (by omega)]
    obtain ⟨_,_,bu⟩:=World.cells?_some bq;have M6:=bu (j % bE.size) aek;rw [ae] at M6;have e:(Addr.add (Addr.add ⟨b,o,none⟩ (j / bE.size*bE.size)) (j % bE.size))=⟨b,o+j,none⟩:=by
     simp only [add_lit];congr 1;have:=Nat.div_add_mod' j bE.size;omega
    rw [e] at M6;exact ⟨M6,b7 _ _ _ b8 ae⟩
   refine ⟨.ay ((List.range len).map fun i=>(ID i).1).flatten len .shared,rfl,rfl,.ay _ _ _ b o cap V (by simp) ak (by simp) (fun j u aw=>?_) (fun j u aw=>?_),(List.range len).map fun i=>(ID i).1,by simp,by simp;omega,fun us hu=>?_⟩
   ·obtain ⟨aJ,aP,cj,_⟩:=key j u aw;exact ⟨⟨_,aJ⟩,aJ,aP,cj⟩
   ·exact (key j u aw).2.2.2
   ·obtain ⟨j,aw,rfl⟩:=ss.1 hu;exact (LH j (sJ.1 aw)).1
end
end Go.Proofs.YtfakoboiahbhaaaGreat.Ab


namespace Go.Proofs.YtfakoboiahbhaaaGreat.Ab
open Go
set_option maxRecDepth 20000
set_option maxHeartbeats 4000000
noncomputable def aaX:eA :=
 Gx [gO 3 [.hI 1] .box,Gk 4 0,Gk 5 0] (.seq (Gr [Gm 7 0,gO 8 [.hL 7] .zA,F4 9 8 0,F4 10 9 1,Gj 11 10,gO 12 [.sl 3] (.oR 0),Gj 13 12,Gf 14 11 13 2,gO 15 [.hL 14] (.pV (.str 2)),gO 6 [] (.alloc [.int .i64 0,.int .i64 0]),⟨none,[.sl 6,.hI 15],none,none,.st 2⟩]) (.seq (Gx [F4 16 3 1,Gj 17 16,FY 18 17 0 .gtr] (.cond (.sl 18) (.seq (Gr [gO 19 [.sl 6] (.oR 1),Gj 20 19,gO 21 [.sl 6] (.oR 0),Gj 22 21,Gm 4 20,Gm 5 22]) .ret) .skip)) (.seq (Gr [gO 23 [.sl 6] (.oR 0),Gj 24 23,gO 25 [.sl 6] (.oR 1),Gj 26 25,Gm 4 24,Gm 5 26]) .ret)))
theorem afI:ze Tryz.prog U_ 68=some (aaX,27,[.tmp 4,.tmp 5]):=by kernel_rfl
def Ks (t:qb) (p:(Int×Int)):Option (Int×Int) :=
 p6 (0≤p.1∧p.1<(t.2.length:Int)) <|
 if (decide ((0:Int)<p.2))=true then
  some ((ix t.2 p.1).2,(ix t.2 p.1).1)
 else
  some ((ix t.2 p.1).1,(ix t.2 p.1).2)
theorem Jv {t:qb} {p:(Int×Int)} {v:(Int×Int)} (h:Ks t p=some v):qg 68 [(.bU [(hR t.1),(.ay (t.2.flatMap p0) t.2.length .shared)]),(.agg [(hR p.1),(hR p.2)])] (.tuple [(hR v.1),(hR v.2)]):=by
 refine qB dJ afI rfl (H5 (pY rfl (pY rfl rfl))) fun Q bl=>?_;have jy:qn [.tmp 4,.tmp 5] Q (fun v=>(.tuple [(hR v.1),(hR v.2)])) v:=fun T H bI=>bl _ T H bI;unfold Ks at h;unfold aaX;conv=>whnf
 refine qm h id fun eW h=>?_;rw [q3 p0 2 qw t.2 p.1 eW];conv=>whnf
 refine bs h (fun fm h=>?_) fun fm h=>?_
 ·rw [fm];conv=>whnf
  exact p4 h jy rfl rfl
 ·rw [fm];conv=>whnf
  exact p4 h jy rfl rfl
end Go.Proofs.YtfakoboiahbhaaaGreat.Ab


namespace Go.Proofs.YtfakoboiahbhaaaGreat.Ab
open Go
noncomputable def SH:eA :=
 Gx [Gm 30 7,gO 31 [.sl 2] (.pV .one),FZ 32 30 31 .eql,Gm 33 32,cP 34 [.sl 0] 33 true .iS,cP 35 [.hL 6] 33 true (.pV (.str 2)),cP 36 [.hI 34,.hI 35] 33 true (.call 1),cP 37 [.hL 36] 33 true (.un .not),gO 38 [.hL 33,.hL 37,.iC (.bool false)] .pick] (.cond (.sl 38) .ret .skip)
noncomputable def SI:eA :=
 Gx [gO 25 [.sl 1] (.pV .one),gO 26 [.sl 6] (.pV (.str 2)),gO 27 [.iC (.func 68 [] []),.sl 25,.sl 26] (.call 3),Gm 24 27,GH 28 24 0,gO 29 [.hL 24] (.ext 1),Gm 7 28,Gm 8 29] SH
noncomputable def SJ:eA :=
 Gx [Gl 21 4,Gm 22 5,gO 23 [.hL 21,.hL 22] (.build [.int .i64 0,.int .i64 0] [(0,1),(1,1)]),gO 6 [] (.alloc [.int .i64 0,.int .i64 0]),⟨none,[.sl 6,.hI 23],none,none,.st 2⟩] SI
noncomputable def SK:eA :=
 .block 3 (Gx [Gl 20 18,Gm 5 20] SJ)
noncomputable def SL:eA :=
 Gx [Gk 18 0] (.block 2 (.loop (some (Ex false [0,3,1,1,9,2,2,1,22])) (Gx [gO 19 [.sl 18,.iC (.int .i64 2)] (.bin .lss)] (.seq (.cond (.sl 19) .skip (.exit 2)) (.seq SK (Gq [FX 39 18 1,Gm 18 39]))))))
noncomputable def SM:eA :=
 .block 1 (Gx [Gl 17 15,Gm 4 17] SL)
noncomputable def Xz:eA :=
 Gx [gO 9 [.sl 1] (.pV .one),gO 10 [.hL 9] .zA,F4 11 10 0,F4 12 11 1,Gj 13 12,Gi 14 13,Gk 15 0] (.block 0 (.loop (some (Ex false [0,3,11,2,25])) (Gx [gO 16 [.sl 15,.sl 14] (.bin .lss)] (.seq (.cond (.sl 16) .skip (.exit 0)) (.seq SM (Gq [FX 40 15 1,Gm 15 40]))))))
theorem aeY:ze Go.Proofs.Tryz.prog UG 113=some (Xz,41,[]):=by kernel_rfl
end Go.Proofs.YtfakoboiahbhaaaGreat.Ab


namespace Go.Proofs.YtfakoboiahbhaaaGreat.Ab
open Go
set_option maxRecDepth 20000
set_option maxHeartbeats 4000000
abbrev p3:=Int×List (Int×Int)
def qY (r:Nat):Int×Int:=(((r / 2:Nat):Int),((r % 2:Nat):Int))
def qp (t:p3) (p:Int×Int):Int:=if 0<p.2 then (ix t.2 p.1).2 else (ix t.2 p.1).1
def fin (t:p3) (p:Int×Int):Int:=if 0<p.2 then (ix t.2 p.1).1 else (ix t.2 p.1).2
theorem I5 {t:p3} {p:Int×Int} (h:0≤p.1∧p.1<(t.2.length:Int)):Ks t p=some (qp t p,fin t p):=by
 rw [Ks,qe h];unfold qp fin;by_cases ad:0<p.2
 ·rw [if_pos (decide_eq_true ad),if_pos ad,if_pos ad]
 ·rw [if_neg (by simpa using ad),if_neg ad,if_neg ad]
def rv (t:p3) (figure:Int) (r:Nat):Bool:=decide (qp t (qY r)=figure)
def places (t:p3) (figure:Int):List (Int×Int):=((List.range (2*t.2.length)).filter (rv t figure)).map qY
theorem Q5 (p:Nat→Bool) {j:Nat} (aC:p j=true):∀ {n:Nat},j<n→((List.range n).filter p)[((List.range j).filter p).length]?=some j
 | 0,h=>absurd h (by omega)
 | n+1,h=>by
   rw [vg,t_];by_cases aw:j<n
   ·have:=Q5 p aC aw;rw [sA (sa.1 this).1,this]
   ·(obtain rfl:j=n:=by omega);rw [sL (sb _)];simp [aC]
theorem Oc (p:Nat→Bool) (j:Nat):((List.range (j+1)).filter p).length=((List.range j).filter p).length+if p j=true then 1 else 0:=by
 rw [vg,t_,sm];by_cases h:p j=true
 ·rw [if_pos h];simp [h]
 ·rw [if_neg h];simp [h]
theorem ah6 {α:Type} (Y:α) (step:Nat→α→α):∃ Z:Nat→α,Z 0=Y∧∀ j,Z (j+1)=step j (Z j):=⟨fun n=>Nat.rec Y (fun j z=>step j z) n,rfl,fun _=>rfl⟩
theorem O0 {n i b:Nat} (hi:i<n) (ag:b<2):qY (2*i+b)=((i:Int),(b:Int)):=by
 unfold qY;rw [show (2*i+b) / 2=i by omega,show (2*i+b) % 2=b by omega]
theorem Vq {t:p3} {figure:Int} (al:t.2.length≤1000) {L N:Nat} {rj:Nat→List au} (hlen:∀ i,(rj i).length=N) {c:Nat→Nat} (ao:∀ j,c j=((List.range j).filter (rv t figure)).length) {M:Nat} (B6:M≤2*t.2.length) {Z:Nat→List au} {N3:List au}
  (bm:∀ r,r<M→if rv t figure r=true then Sem Tryz.prog (.yield L) [.agg (p0 (qY r))] (rj (c r)++(Z r++[au.cells (p0 (qY r))])) 0 (.bool true) (rj (c (r+1))++Z (r+1)) else Z (r+1)=Z r++[au.cells (p0 (qY r))])
  (he:(M=2*t.2.length∧N3=rj (c M)++Z M)∨(M<2*t.2.length∧rv t figure M=true∧Sem Tryz.prog (.yield L) [.agg (p0 (qY M))] (rj (c M)++(Z M++[au.cells (p0 (qY M))])) 0 (.bool false) N3)) (pr:ba 0 (rj 0++Z 0) N3) :
  Sem Tryz.prog (.fn 113) [.yield L,.bU [.bU [hR t.1,.ay (t.2.flatMap p0) t.2.length .shared]],.bU [hR figure]] (rj 0++Z 0) 0 (.tuple []) N3:=by
 obtain ⟨n,aN⟩:∃ n,n=t.2.length:=⟨_,rfl⟩;obtain ⟨p,aC⟩:∃ p,p=rv t figure:=⟨_,rfl⟩;have jC:∀ j,c (j+1)=c j+if p j=true then 1 else 0:=fun j=>by rw [ao,ao,aC];exact Oc _ j
 rw [←aN] at B6 he al;rw [←aC] at bm he;refine G4 dJ aeY rfl pr fun Q bl=>?_;unfold Xz;obtain ⟨fR,rQ⟩:∃ c,SM=c:=⟨_,rfl⟩;rw [rQ];conv=>whnf
 rw [←aN];refine .intro (fun m T H=>∃ i:Nat,i≤n∧2*i≤M∧m=n-i∧T=GD 41 [(0,.yield L),(1,.bU [.bU [hR t.1,.ay (t.2.flatMap p0) n .shared]]),(2,.bU [hR figure]),(14,hR (n:Int)),(15,hR (i:Int))]∧H=rj (c (2*i))++Z (2*i)) n ⟨0,sr _,sr _,rfl,rfl,by rw [ao];rfl⟩ ?_;rintro m T H ⟨i,hi,ad9,rfl,rfl,rfl⟩;conv=>whnf
 refine Hs (fun M6=>?_) (fun M6=>?_)
 ·have aU:i<n:=by omega
  conv=>whnf
  refine HU fun mU GZ=>?_;subst rQ;unfold SM;obtain ⟨dY,BZ⟩:∃ c,SL=c:=⟨_,rfl⟩;rw [BZ];conv=>whnf
  refine HU fun mV Jd=>?_;subst BZ;unfold SL;obtain ⟨b7,hp⟩:∃ c,SK=c:=⟨_,rfl⟩;rw [hp];conv=>whnf
  refine .intro (fun m T H=>∃ b:Nat,b≤2∧2*i+b≤M∧m=2-b∧T=GD 41 [(0,.yield L),(1,.bU [.bU [hR t.1,.ay (t.2.flatMap p0) n .shared]]),(2,.bU [hR figure]),(4,hR (i:Int)),(14,hR (n:Int)),(15,hR (i:Int)),(18,hR (b:Int))]∧H=rj (c (2*i+b))++Z (2*i+b)) 2 ⟨0,sr _,ad9,rfl,rfl,rfl⟩ ?_;rintro m T H ⟨b,ag,RF,rfl,rfl,rfl⟩;conv=>whnf
  refine Hs (fun bp=>?_) (fun bp=>?_)
  ·(have fm:b<2:=by omega);have MS:qY (2*i+b)=((i:Int),(b:Int)):=O0 aU fm;have ady:Ks t ((i:Int),(b:Int))=some (qp t ((i:Int),(b:Int)),fin t ((i:Int),(b:Int))):=I5 ⟨by omega,by omega⟩;have W8:=Jv ady;rw [←aN] at W8;(conv=>whnf);refine HU fun akB Rp=>?_;subst hp;unfold SK;obtain ⟨bq,d_⟩:∃ c,SJ=c:=⟨_,rfl⟩;rw [d_];(conv=>whnf);refine HU fun akC Rq=>?_;subst d_;unfold SJ;obtain ⟨bk,b8⟩:∃ c,SI=c:=⟨_,rfl⟩;rw [b8];(conv=>whnf);refine DU (x:=au.cells [hR (0:Int),hR (0:Int)]) (by first | exact ql.h | rfl | (simp [sc,I.settle];done)) ?_
   (conv=>whnf);rw [ru];refine HU fun akD Rr=>?_;subst b8;unfold SI;obtain ⟨a',cb⟩:∃ c,SH=c:=⟨_,rfl⟩;rw [cb];(conv=>whnf);refine DU (x:=au.cells [hR (i:Int),hR (b:Int)]) (by first | exact ql.h | rfl | (simp [sc,I.settle];done)) ?_
   (conv=>whnf);refine ⟨(pY (qK (pY rfl (pY (qG (fun _=>(pY rfl (pY rfl rfl))) _ _ _) rfl))) (pY (I0 (pY rfl (pY rfl rfl))) rfl)),_,W8,?_⟩;(conv=>whnf);refine HU fun akE Rs=>?_;subst cb;unfold SH;(conv=>whnf);rcases Ij (decide (qp t ((i:Int),(b:Int))=figure)) with J_ | J_
   ·(have Jj:p (2*i+b)=true:=by rw [aC];show decide (qp t (qY (2*i+b))=figure)=true;rw [MS];exact J_);rw [J_];(conv=>whnf);refine DU (x:=au.cells [hR (i:Int),hR (b:Int)]) (by first | exact ql.h | rfl | (simp [sc,I.settle];done)) ?_
    (conv=>whnf);rw [sj];by_cases Rt:2*i+b<M
    ·have aj:=bm _ Rt;rw [if_pos Jj,MS] at aj;refine ⟨_,_,Ha aj,?_⟩;(conv=>whnf);refine Rs _ _ _ ?_;(conv=>whnf);refine Rr _ _ _ ?_;(conv=>whnf);refine Rq _ _ _ ?_;(conv=>whnf);refine Rp _ _ _ ?_;(conv=>whnf);refine ⟨2-(b+1),by omega,b+1,by omega,by omega,rfl,?_,rfl⟩;rw [show IntKind.i64.wrap ((b:Int)+1)=((b+1:Nat):Int) by rw [Ih _ (by omega) (by omega)];omega];rfl
    ·(have adB:M=2*i+b:=by omega);rcases he with ⟨ad,_⟩ | ⟨_,_,aG⟩
     ·omega
     ·rw [adB,MS] at aG;refine ⟨_,_,Ha aG,?_⟩;(conv=>whnf);refine Rs _ _ _ ?_;(conv=>whnf);refine Rr _ _ _ ?_;(conv=>whnf);refine Rq _ _ _ ?_;(conv=>whnf);refine Rp _ _ _ ?_;(conv=>whnf);refine Jd _ _ _ ?_;(conv=>whnf);refine GZ _ _ _ ?_;(conv=>whnf);exact bl _ _ _ ⟨.inr rfl,ji.refl _,rfl⟩
   ·(have Jj:¬ p (2*i+b)=true:=by rw [aC];show ¬ decide (qp t (qY (2*i+b))=figure)=true;rw [MS,J_];decide);have Rt:2*i+b<M:=by
     rcases he with ⟨ad,_⟩ | ⟨_,af,_⟩
     ·omega
     ·rcases sU (2*i+b) M with h | h
      ·exact h
      ·rw [show M=2*i+b by omega] at af;exact absurd af Jj
    have aj:=bm _ Rt;rw [if_neg Jj,MS] at aj;rw [J_];(conv=>whnf);refine Rs _ _ _ ?_;(conv=>whnf);refine Rr _ _ _ ?_;(conv=>whnf);refine Rq _ _ _ ?_;(conv=>whnf);refine Rp _ _ _ ?_;(conv=>whnf);refine ⟨2-(b+1),by omega,b+1,by omega,by omega,rfl,?_,?_⟩
    ·rw [show IntKind.i64.wrap ((b:Int)+1)=((b+1:Nat):Int) by rw [Ih _ (by omega) (by omega)];omega];rfl
    ·rw [show 2*i+(b+1)=2*i+b+1 by omega,aj,jC,if_neg Jj,sj];rfl
  ·(obtain rfl:b=2:=by omega);(conv=>whnf);refine Jd _ _ _ ?_;(conv=>whnf);refine GZ _ _ _ ?_;(conv=>whnf);refine ⟨n-(i+1),by omega,i+1,by omega,by omega,rfl,?_,rfl⟩;rw [show IntKind.i64.wrap ((i:Int)+1)=((i+1:Nat):Int) by rw [Ih _ (by omega) (by omega)];omega];rfl
 ·obtain rfl:i=n:=by omega
  conv=>whnf
  rcases he with ⟨ad,af⟩ | ⟨ad,_,_⟩
  ·subst af;rw [ad] at bl;exact bl _ _ _ ⟨.inl rfl,ji.refl _,rfl⟩
  ·omega
theorem Vp {t:p3} {figure:Int} {L N:Nat} {rj:Nat→List au} (hlen:∀ i,(rj i).length=N) {c:Nat→Nat} (ao:∀ j,c j=((List.range j).filter (rv t figure)).length) {M:Nat} (Y:List au)
  (aj:∀ r,r<M→rv t figure r=true→∀ Y,∃ q6,Sem Tryz.prog (.yield L) [.agg (p0 (qY r))] (rj (c r)++Y) 0 (.bool true) (rj (c r+1)++q6)) :
  ∃ Z:Nat→List au,Z 0=Y∧(∀ r,r<M→if rv t figure r=true then Sem Tryz.prog (.yield L) [.agg (p0 (qY r))] (rj (c r)++(Z r++[au.cells (p0 (qY r))])) 0 (.bool true) (rj (c (r+1))++Z (r+1)) else Z (r+1)=Z r++[au.cells (p0 (qY r))]) ∧
    ∀ r,r≤M→(rj 0++Y).length≤(rj (c r)++Z r).length:=by
 have jC:∀ j,c (j+1)=c j+if rv t figure j=true then 1 else 0:=fun j=>by rw [ao,ao];exact Oc _ j
 have yR:∀ (j:Nat) (Y:List au),∃ q6,j<M→rv t figure j=true→Sem Tryz.prog (.yield L) [.agg (p0 (qY j))] (rj (c j)++Y) 0 (.bool true) (rj (c (j+1))++q6):=fun j Y=>by
  by_cases aw:j<M∧rv t figure j=true
  ·obtain ⟨q6,h⟩:=aj j aw.1 aw.2 Y;exact ⟨q6,fun _ _=>by rw [jC,if_pos aw.2];exact h⟩
  ·exact ⟨[],fun a b=>absurd ⟨a,b⟩ aw⟩
 obtain ⟨g,aO⟩:∃ g:Nat→List au→List au,∀ (j:Nat) (Y:List au),j<M→rv t figure j=true→Sem Tryz.prog (.yield L) [.agg (p0 (qY j))] (rj (c j)++Y) 0 (.bool true) (rj (c (j+1))++g j Y) :=
  ⟨fun j Y=>Classical.choose (yR j Y),fun j Y=>vA (yR j Y)⟩
 clear yR;obtain ⟨Z,J8,J7⟩:=ah6 Y fun j Y=>if rv t figure j=true then g j (Y++[au.cells (p0 (qY j))]) else Y++[au.cells (p0 (qY j))];refine ⟨Z,J8,fun r OI=>?_,fun r=>?_⟩
 ·by_cases h:rv t figure r=true
  ·rw [if_pos h,J7 r,if_pos h];exact aO r _ OI h
  ·rw [if_neg h,J7 r,if_neg h]
 ·induction r with
  | zero=>intro _;rw [J8,sm,sm,hlen,hlen];exact sb _
  | succ j a_ =>
    intro aw;refine sI (a_ (by omega)) ?_;by_cases Jj:rv t figure j=true
    ·have ad:=(aO j (Z j++[au.cells (p0 (qY j))]) (by omega) Jj).1.1;rw [J7 j];simp only [if_pos Jj];refine sI ?_ ad;rw [←sj];simp
    ·rw [J7 j,jC,if_neg Jj];simp only [if_neg Jj];rw [←sj];simp
theorem Sc {t:p3} {figure:Int} {r:Nat} (aj:r<2*t.2.length) (ag:rv t figure r=true):((places t figure).map fun p=>I.agg (p0 p))[((List.range r).filter (rv t figure)).length]?=some (.agg (p0 (qY r))):=by
 rw [places,ud,su,Q5 _ ag aj];rfl
def Kh (t:p3) (figure:Int):Option (List (Int×Int)):=if t.2.length≤1000 then some (places t figure) else none
theorem ahN {t:p3} {figure:Int} {v:List (Int×Int)} (h:Kh t figure=some v):Seq Tryz.prog 113 [.bU [.bU [hR t.1,.ay (t.2.flatMap p0) t.2.length .shared]],.bU [hR figure]] (v.map fun e1=>.agg [hR e1.1,hR e1.2]):=by
 unfold Kh at h;split at h
 ·rename_i al;obtain rfl:=Option.some.inj h;intro L N rj hlen fl aj Y;have ao:∀ j,((List.range j).filter (rv t figure)).length=((List.range j).filter (rv t figure)).length:=fun _=>rfl;have Hl:((places t figure).map fun e1=>I.agg [hR e1.1,hR e1.2]).length=((List.range (2*t.2.length)).filter (rv t figure)).length:=by simp [places]
  obtain ⟨Z,J8,J7,hle⟩:=Vp (t:=t) (figure:=figure) (L:=L) hlen ao (M:=2*t.2.length) Y fun r OI ag Y=>by
   have aO:=Sc OI ag;obtain ⟨ad,af⟩:=sa.1 aO;obtain ⟨q6,h⟩:=aj _ ad Y;refine ⟨q6,?_⟩;rw [←af];exact h
  refine ⟨Z (2*t.2.length),?_⟩;rw [Hl,←J8];exact Vq al hlen ao (sb _) J7 (.inl ⟨rfl,rfl⟩) (ON (by rw [J8];exact hle _ (sb _)))
 ·cases h
end Go.Proofs.YtfakoboiahbhaaaGreat.Ab


namespace Go.Proofs.YtfakoboiahbhaaaGreat.Ab
open Go Go.ChangeShapes Go.WideShapes Go.ChangeAt Go.RowKit
set_option maxRecDepth 100000
section
variable {H:Type} {enc:TypeId×Value→H} {w:World} {base:Nat}
def Lu:I→Prop:=fun u=>∃ x,u=hR x∧I9 x
theorem QU:ME enc Tryz.prog w 3 Lu:=fun n v y h=>by
 obtain ⟨u,a,b,c,x,rfl,d⟩:=acA (P:=Tryz.prog) Tryz.underlying3 n v y h;exact ⟨_,a,b,c,x,rfl,wf_i64 d⟩
theorem agl {us:List I} (h:Ls [Lu,Lu] us):∃ p:Int×Int,us=p0 p∧I9 p.1∧I9 p.2:=by
 obtain ⟨ak,h⟩:=h
 match us,ak with
 | [a,b],_ =>
   obtain ⟨x,rfl,al⟩:=h 0 _ _ rfl rfl;obtain ⟨y,rfl,a0⟩:=h 1 _ _ rfl rfl;exact ⟨(x,y),rfl,al,a0⟩
def Qo (bh:List (Int×Int)):Prop:=bh.length≤9223372036854775807∧∀ p∈bh,I9 p.1∧I9 p.2
abbrev Qv (bh:List (Int×Int)):I:=.ay (bh.flatMap p0) bh.length .shared
def Uo:I→Prop:=fun u=>∃ bh,u=Qv bh∧Qo bh
theorem adn : N2 enc Tryz.prog w #[{ name := "Left", type := 3, offset := 0, embedded := false, tag := "", pkgPath := "", byteOffset := 0 }, { name := "Right", type := 3, offset := 1, embedded := false, tag := "", pkgPath := "", byteOffset := 8 }] [Lu, Lu] := ⟨rfl, fun i f q aQ a3 => by
 match i with
 | 0=>simp at aQ a3;subst aQ;subst a3;exact ⟨rfl,by kernel_rfl,QU⟩
 | 1=>simp at aQ a3;subst aQ;subst a3;exact ⟨rfl,by kernel_rfl,QU⟩
 | i+2=>simp at a3⟩
theorem acB:ME enc Tryz.prog w 22 Uo:=fun n v y h=>by
 obtain ⟨u,a,b,c,L,rfl,ak,fl⟩:=acC Tryz.underlying22 Tryz.underlying67 (by kernel_rfl) (by decide) adn n v y h;obtain ⟨bh,rfl,aC⟩:=W1 (f:=p0) (R:=fun p:Int×Int=>I9 p.1∧I9 p.2) fun us hu=>by
  obtain ⟨p,e,ad,af⟩:=agl (fl us hu);exact ⟨p,e,ad,af⟩
 refine ⟨_,a,b,c,bh,?_,by have:=afZ ak;simpa using this,aC⟩;simp [Qv,List.flatMap_def]
structure abb (b:p3):Prop where
 f:I9 b.1
 l:Qo b.2
theorem Vl:Arg enc Tryz.prog w base 24 fun u=>∃ b:p3,u=.agg [hR b.1,Qv b.2]∧abb b:=by
 intro v d p ae aZ
 obtain ⟨u,a,b,us,rfl,ak,hu⟩:=aco (P:=Tryz.prog) (enc:=enc) (w:=w) (base:=base) (Qs:=[Lu,Uo]) Tryz.underlying24 (by kernel_rfl) ⟨rfl,fun i f q aQ a3=>by
  match i with
  | 0=>simp at aQ a3;subst aQ;subst a3;exact ⟨rfl,by kernel_rfl,QU⟩
  | 1=>simp at aQ a3;subst aQ;subst a3;exact ⟨rfl,by kernel_rfl,acB⟩
  | i+2=>simp at a3⟩ v d p ae aZ
 match us,ak with
 | [jn,aB],_ =>
   obtain ⟨x,rfl,al⟩:=hu 0 _ _ rfl rfl;obtain ⟨y,rfl,a0⟩:=hu 1 _ _ rfl rfl;exact ⟨_,a,b,(x,y),rfl,al,a0⟩
end
end Go.Proofs.YtfakoboiahbhaaaGreat.Ab


namespace Go.Proofs.YtfakoboiahbhaaaGreat.Ab
open Go Go.ChangeShapes Go.WideShapes Go.ChangeAt Go.RowKit
set_option maxRecDepth 100000
section
variable {H:Type} {enc:TypeId×Value→H} {w:World} {base:Nat}
theorem Vm:Arg enc Tryz.prog w base 5 fun u=>∃ x,u=.int .u8 x∧0≤x∧x≤255:=fun v d p ae aZ=>by
 obtain ⟨u,a,b,x,rfl,h⟩:=acn (P:=Tryz.prog) (enc:=enc) (w:=w) (base:=base) Tryz.underlying5 v d p ae aZ;exact ⟨_,a,b,x,rfl,wf_u8 h⟩
structure akz (l:List (List (Int×Int))):Prop where
 n:l.length≤9223372036854775807
 v:∀ r∈l,Qo r
end
end Go.Proofs.YtfakoboiahbhaaaGreat.Ab


namespace Go.Proofs.YtfakoboiahbhaaaGreat.Ab
open Go
def QT:iq→iq→Bool
 | .shared,.shared=>true
 | .full,.full=>true
 | .own a,.own b=>Nat.beq a b
 | .uniq a,.uniq b=>Nat.beq a b
 | _,_=>false
theorem acx:∀ {a b:iq},QT a b=true→a=b:=by
 intro a b h;cases a <;> cases b <;> simp only [QT,tM] at h <;> first | rfl | (rw [ta h])
def Iv (f:I→I→Bool):List I→List I→Bool
 | [],[]=>true
 | a::l,b::r=>match f a b with
   | true=>Iv f l r
   | false=>false
 | _,_=>false
theorem JM {f:I→I→Bool} (aQ:∀ a b,f a b=true→a=b):∀ {a b:List I},Iv f a b=true→a=b
 | [],[],_=>rfl
 | [],_::_,h=>by simp [Iv] at h
 | _::_,[],h=>by simp [Iv] at h
 | a::l,b::r,h=>by
   simp only [Iv] at h;split at h
   ·rename_i jA;rw [aQ a b jA,JM aQ h]
   ·cases h
def HY:Nat→I→I→Bool
 | 0,_,_=>false
 | d+1,a,b=>match a,b with
   | .bool x,.bool y=>match x,y with | true,true=>true | false,false=>true | _,_=>false
   | .int k x,.int q y=>match decide (k=q),decide (x=y) with | true,true=>true | _,_=>false
   | .eD,.eD=>true
   | .bU x,.bU y=>Iv (HY d) x y
   | .ay x n c,.ay y m e=>match Iv (HY d) x y,Nat.beq n m,QT c e with | true,true,true=>true | _,_,_=>false
   | .func f x y,.func g z w=>match Nat.beq f g,Iv (HY d) x z,Iv (HY d) y w with | true,true,true=>true | _,_,_=>false
   | .agg x,.agg y=>Iv (HY d) x y
   | .tuple x,.tuple y=>Iv (HY d) x y
   | _,_=>false
theorem Lz:∀ (d:Nat) (a b:I),HY d a b=true→a=b
 | 0,_,_,h=>by simp [HY] at h
 | d+1,a,b,h=>by
   have a_:=Lz d;unfold HY at h;split at h
   ·split at h <;> first | rfl | cases h
   ·rename_i k x q y;split at h
    ·rename_i ad af;rw [of_decide_eq_true ad,of_decide_eq_true af]
    ·cases h
   ·rfl
   ·rw [JM a_ h]
   ·split at h
    ·rename_i ad af aG;rw [JM a_ ad,ta af,acx aG]
    ·cases h
   ·split at h
    ·rename_i ad af aG;rw [ta ad,JM a_ af,JM a_ aG]
    ·cases h
   ·rw [JM a_ h]
   ·rw [JM a_ h]
   ·cases h
inductive qs where
 | pure (k:Nat) (args:List I) (v:I)
 | map (k:Nat) (args:List I) (es:List (Nat×I×I)) (clock:Nat)
def qE (P:Program):qs→Prop
 | .pure k args v=>lh P k args v
 | .map k args es clock=>∀ H,Sem P (.fn k) args H H.length (.map H.length) (H++[.map es clock])
def look (k:Nat) (args:List I) (H:List au) (lo:Nat):List qs→Option (I×List au)
 | []=>none
 | .pure q bs v::r=>match Nat.beq k q with
   | true=>match Iv (HY 20) args bs with
     | true=>match H with
       | []=>some (v,[])
       | _=>look k args H lo r
     | false=>look k args H lo r
   | false=>look k args H lo r
 | .map q bs es clock::r=>match Nat.beq k q with
   | true=>match Iv (HY 20) args bs with
     | true=>match Nat.beq lo H.length with
       | true=>some (.map H.length,H++[.map es clock])
       | false=>look k args H lo r
     | false=>look k args H lo r
   | false=>look k args H lo r
def TL (l:List qs):b6:=fun b0 args H lo=>match b0 with
 | .fn k=>look k args H lo l
 | _=>none
theorem Sem.ae5 {P:Program} {b0:e6} {args:List I} {r:I} {H':List au} (h:Sem P b0 args [] 0 r H') (lo:Nat):Sem P b0 args [] lo r H' :=
 ⟨⟨h.1.1,fun _ _ h=>by simp at h⟩,h.2⟩
theorem look_ok {P:Program} {k:Nat} {args:List I} {H:List au} {lo:Nat} {r:I} {H':List au}:∀ {l:List qs},(∀ e∈l,qE P e)→look k args H lo l=some (r,H')→Sem P (.fn k) args H lo r H'
 | [],_,h=>by simp [look] at h
 | .pure q bs v::l,ak,h=>by
   have Jl:=look_ok (k:=k) (args:=args) (H:=H) (lo:=lo) (r:=r) (H':=H') fun e he=>ak e (tX _ he);unfold look at h;split at h
   ·rename_i ad;split at h
    ·rename_i af;split at h
     ·cases h;have:=ak (.pure q bs r) ur;rw [ta ad,JM (Lz 20) af];exact this.1.ae5 lo
     ·exact Jl h
    ·exact Jl h
   ·exact Jl h
 | .map q bs es clock::l,ak,h=>by
   have Jl:=look_ok (k:=k) (args:=args) (H:=H) (lo:=lo) (r:=r) (H':=H') fun e he=>ak e (tX _ he);unfold look at h;split at h
   ·rename_i ad;split at h
    ·rename_i af;split at h
     ·rename_i aG;cases h;have:=ak (.map q bs es clock) ur;rw [ta ad,JM (Lz 20) af,ta aG];exact this H
     ·exact Jl h
    ·exact Jl h
   ·exact Jl h
theorem air {P:Program} {l:List qs} (ak:∀ e∈l,qE P e):c' P (TL l):=oG fun b0 args H lo r H' h=>by
 cases b0 with
 | fn k=>exact look_ok ak h
 | yield i=>simp [TL] at h
def Kd (A:FuncId→c8):Nat→List Func→Bool
 | _,[]=>true
 | k,f::r=>match (A k).bad with
   | true=>Kd A (k+1) r
   | false=>match f.body with
     | some c => match codeOk (A k) c, f.name == "runtime.NumGoroutine" with
       | true,false=>Kd A (k+1) r
       | _,_=>false
     | none=>Kd A (k+1) r
theorem W9 {A : FuncId → c8} : ∀ {l : List Func} {k : Nat}, Kd A k l = true → ∀ (i : Nat) (f : Func) (c : Code), (A (k + i)).bad = false → l[i]? = some f → f.body = some c → codeOk (A (k + i)) c = true ∧ f.name ≠ "runtime.NumGoroutine"
 | [],_,_,i,f,c,_,h,_=>by simp at h
 | g::r,k,h,i,f,c,nf,aQ,ao=>by
   unfold Kd at h;cases i with
   | zero =>
     simp at aQ;subst aQ;rw [Nat.add_zero] at nf;rw [nf,ao] at h;simp only at h;split at h
     ·rename_i ad af;exact ⟨ad,by simpa using af⟩
     ·cases h
   | succ i =>
     have aj:Kd A (k+1) r=true:=by
      split at h
      ·exact h
      ·split at h
       ·split at h
        ·exact h
        ·cases h
       ·exact h
     have:=W9 aj i f c (by rw [show k+1+i=k+(i+1) by omega];exact nf) (by simpa using aQ) ao;rw [show k+(i+1)=k+1+i by omega];exact this
theorem agb {P : Program} {A : FuncId → c8} (h : Kd A 0 P.funcs.toList = true) (k : Nat) (f : Func) (c : Code) (ag : (A k).bad = false) (aQ : P.funcs[k]? = some f) (ao : f.body = some c) : codeOk (A k) c = true ∧ f.name ≠ "runtime.NumGoroutine" := by
 have:=W9 h k f c (by rw [sP];exact ag) (by simpa using aQ) ao
 rwa [sP] at this
theorem acj:Kd jr 0 Go.Proofs.Tryz.prog.funcs.toList=true:=by kernel_rfl
noncomputable def Ph (l:List qs) (k:Nat) (args:List I):Option I:=match fS Go.Proofs.Tryz.prog jr (TL l) 300 (.fn k) args [] 0 with
 | some (r,a2)=>match bJ a2 0 a2.length 0 8 r with
   | some v=>match cq 8 v.settle with
     | true=>some v.settle
     | false=>none
   | none=>none
 | none=>none
theorem GN {l:List qs} (ak:∀ e∈l,qE Go.Proofs.Tryz.prog e) {k:Nat} {args:List I} {v:I} (h:Ph l k args=some v):lh Go.Proofs.Tryz.prog k args v:=by
 unfold Ph at h;split at h
 ·rename_i r a2 ao;split at h
  ·rename_i u aQ;split at h
   ·rename_i aC;cases h;have ai:=(BJ dJ jr (air ak) (agb acj) 300).Gy ao;refine ⟨⟨ba.refl _ _,ai.2.1,fun B U J S w xs ah aN ae=>CallsIn.mono (ai.2.2 B U J S w xs ah aN ae) fun e w' he=>?_⟩,aC⟩;cases e with
    | returned x =>
      have nt:=xh ah (fun id aE=>by simp at aE) aQ he;show a1 B U J S w [] u.settle x w';cases u with
      | ay cells len gx =>
        cases gx with
        | uniq z=>exact nt.settle
        | _=>exact nt
      | _=>exact nt
    | panicked c=>exact he.elim
    | outgrown=>exact he.elim
   ·cases h
  ·cases h
 ·cases h
end Go.Proofs.YtfakoboiahbhaaaGreat.Ab


namespace Go.Proofs.YtfakoboiahbhaaaGreat.Ab
open Go
noncomputable def aha:eA :=
 .j2 false [Gm 5 0,Gl 6 2,Gm 7 2,gO 8 [.hL 7] (.conv .u64),gO 9 [.iC (.func 97 [] []),.sl 8] (.call 3),gO 10 [.iC (.func 96 [] []),.hI 5,.iC (.int .i64 0),.hI 6,.hI 9] (.call 1)]
noncomputable def S6:eA :=
 Gx [Gl 3 0,Gi 4 3,Gm 2 4] aha
theorem WW:ze Go.Proofs.Tryz.prog Vc 73=some (S6,11,[]):=by kernel_rfl
noncomputable def Nz:eA :=
 Gx [Gm 24 0,Gm 25 1,Gm 26 2,gO 27 [.iC (.func 115 [] []),.hI 24,.hI 25,.hI 26] (.call 1)] .ret
noncomputable def ahj:eA :=
 Gx [Gm 30 0,Gm 31 1,Gm 32 2,gO 33 [.iC (.func 116 [] []),.hI 30,.hI 31,.hI 32] (.call 1)] .ret
noncomputable def ahk:eA :=
 Gx [Gl 36 0,Gl 37 1,Gl 38 2,gO 39 [.iC (.func 117 [] []),.hI 36,.hI 37,.hI 38] (.call 1)] (Gq [Gm 40 3,FY 41 40 1 .sub,Gm 3 41])
noncomputable def ahl:eA :=
 Gx [Gl 55 2,FY 56 55 1 .sub,Gm 57 11,Gl 58 1,FZ 59 57 58 .sub,FZ 60 56 59 .sub,Gm 11 60] (Gq [Gk 12 1])
noncomputable def ahm:eA :=
 Gx [Gl 51 0,Gl 52 1,Gl 53 2,gO 54 [.iC (.func 119 [] []),.hI 51,.hI 52,.hI 53] (.call 1)] ahl
noncomputable def ahn:eA :=
 Gx [Gl 69 0,Gl 70 1,Gl 71 2,gO 72 [.iC (.func 120 [] []),.hI 69,.hI 70,.hI 71] (.call 1)] (.cond (.sl 72) .ret .skip)
noncomputable def aho:eA :=
 Gx [Gl 88 0,Gm 89 1,Gl 90 2,Gm 91 11,gO 92 [.iC (.func 122 [] []),.hI 88,.hI 89,.hI 90,.hI 91] (.call 1),Gm 13 92] (Gx [Gm 93 13,Gm 1 93] (.exit 1))
noncomputable def ahp:eA :=
 Gx [Gl 117 0,Gm 118 1,Gl 119 14,Gl 120 3,gO 121 [.iC (.func 96 [] []),.hI 117,.hI 118,.hI 119,.hI 120] (.call 1)] (Gq [Gm 122 14,FX 123 122 1,Gm 1 123])
noncomputable def ahq:eA :=
 Gx [Gm 114 16,Gm 115 18,FZ 116 114 115 .geq,Gm 8 116] ahp
noncomputable def ahb:eA :=
 Gx [Gl 127 0,Gl 128 14,FX 129 128 1,Gm 130 2,Gl 131 3,gO 132 [.iC (.func 96 [] []),.hI 127,.hI 129,.hI 130,.hI 131] (.call 1)] (Gq [Gm 133 14,Gm 2 133])
noncomputable def ahc:eA :=
 Gx [Gm 124 17,Gm 125 18,FZ 126 124 125 .geq,Gm 8 126] ahb
noncomputable def ahd:eA :=
 Gx [Gm 109 10,FY 110 109 8 .quo,Gm 18 110] (Gx [Gl 111 16,Gl 112 17,FZ 113 111 112 .lss] (.cond (.sl 113) ahq ahc))
noncomputable def ahe:eA :=
 Gx [Gl 103 14,Gl 104 1,FZ 105 103 104 .sub,Gl 106 2,Gl 107 14,FZ 108 106 107 .sub,Gm 16 105,Gm 17 108] ahd
noncomputable def ahf:eA :=
 Gx [Gl 95 0,Gl 96 1,Gl 97 2,Gm 98 11,gO 99 [.iC (.func 123 [] []),.hI 95,.hI 96,.hI 97,.hI 98] (.call 1),Gm 94 99,GH 100 94 0,gO 101 [.hL 94] (.ext 1),Gm 14 100,Gm 15 101] (Gx [Gm 102 15,Gm 9 102] ahe)
noncomputable def ahg:eA :=
 .seq (.seq (Gr [Gl 73 1,FY 74 73 0 .gtr,Gm 75 74,cP 76 [.sl 0] 75 true .iS,cP 77 [.sl 1] 75 true .iS,cP 78 [.hL 77,.iC (.int .i64 1)] 75 true (.bin .sub),cP 79 [.hL 76,.hL 78] 75 true (.pO 1),cP 80 [.hL 79] 75 true (.pV .one),cP 81 [.sl 0] 75 true .iS,cP 82 [.sl 11] 75 true .iS,cP 83 [.hL 81,.hL 82] 75 true (.pO 1),cP 84 [.hL 83] 75 true (.pV .one),⟨some 85,[.iC (.func 121 [] []),.sl 80,.sl 84],some (75,true),none,.call 3⟩,cP 86 [.hL 85] 75 true (.un .not),gO 87 [.sl 75,.hL 86,.iC (.bool false)] .pick]) (.cond (.sl 87) aho .skip)) ahf
noncomputable def ahh:eA :=
 .seq (Gx [Gl 61 8,Gm 62 61,cP 63 [.sl 9] 62 true .iS,gO 64 [.hL 62,.hL 63,.iC (.bool false)] .pick,Gm 65 64,cP 66 [.hI 12] 65 true .iS,cP 67 [.hL 66,.iC (.int .i64 1)] 65 true (.bin .eql),gO 68 [.hL 65,.hL 67,.iC (.bool false)] .pick] (.cond (.sl 68) ahn .skip)) ahg
noncomputable def ahi:eA :=
 Gx [Gl 43 0,Gl 44 1,Gl 45 2,gO 46 [.iC (.func 118 [] []),.hI 43,.hI 44,.hI 45] (.call 1),Gm 42 46,GH 47 42 0,gO 48 [.hL 42] (.ext 1),Gm 11 47,Gm 12 48] (.seq (Gx [Gl 49 12,FY 50 49 2 .eql] (.cond (.sl 50) ahm .skip)) ahh)
noncomputable def Tz:eA :=
 .seq (Gx [Gl 28 3,FY 29 28 0 .eql] (.cond (.sl 29) ahj .skip)) (.seq (Gx [Gl 34 8,gO 35 [.hL 34] (.un .not)] (.cond (.sl 35) ahk .skip)) ahi)
noncomputable def NA:eA :=
 .block 1 (Gx [Gl 19 2,Gl 20 1,FZ 21 19 20 .sub,Gm 10 21] (.seq (Gx [Gl 22 10,FY 23 22 12 .leq] (.cond (.sl 23) Nz .skip)) Tz))
noncomputable def Ty:eA :=
 Gx [gO 8 [.iC (.bool true)] .iS] (Gx [gO 9 [.iC (.bool true)] .iS] (.block 0 (.loop (some (Ex false [0,4,4,2,124])) NA)))
theorem WZ:ze Go.Proofs.Tryz.prog Vh 96=some (Ty,134,[]):=by kernel_rfl
noncomputable def agI:eA :=
 .block 3 (Gr [Gl 33 0,Gl 34 7,Gl 35 0,Gl 36 7,FY 37 36 1 .sub,Gl 38 0,Gl 39 7,FY 40 39 1 .sub,Gf 41 38 40 1,Gj 42 41,Gl 43 0,Gl 44 7,Gf 45 43 44 1,Gj 46 45,Gf 47 33 34 1,⟨none,[.hI 47,.hI 42],none,none,.st 1⟩,Gf 48 35 37 1,⟨none,[.hI 48,.hI 46],none,none,.st 1⟩])
noncomputable def agJ:eA :=
 .seq (.seq (Gr [Gl 16 7,Gl 17 1,FZ 18 16 17 .gtr,Gm 19 18,cP 20 [.sl 0] 19 true .iS,cP 21 [.sl 7] 19 true .iS,cP 22 [.hL 20,.hL 21] 19 true (.pO 1),cP 23 [.hL 22] 19 true (.pV .one),cP 24 [.sl 0] 19 true .iS,cP 25 [.sl 7] 19 true .iS,cP 26 [.hL 25,.iC (.int .i64 1)] 19 true (.bin .sub),cP 27 [.hL 24,.hL 26] 19 true (.pO 1),cP 28 [.hL 27] 19 true (.pV .one),⟨some 29,[.iC (.func 121 [] []),.sl 23,.sl 28],some (19,true),none,.call 3⟩,gO 30 [.sl 19,.hL 29,.iC (.bool false)] .pick]) (.cond (.sl 30) .skip (.exit 2))) (.seq agI (Gq [Gm 31 7,FY 32 31 1 .sub,Gm 7 32]))
noncomputable def agK:eA :=
 .block 1 (Gx [Gl 15 6,Gm 7 15] (.block 2 (.loop (some (Ex false [0,3,3,2,41])) agJ)))
noncomputable def agL:eA :=
 .seq (Gx [Gl 10 6,Gl 11 2,FZ 12 10 11 .lss] (.cond (.sl 12) .skip (.exit 0))) (.seq agK (Gq [Gm 13 6,FX 14 13 1,Gm 6 14]))
noncomputable def SN:eA :=
 Gx [Gl 8 1,FX 9 8 1,Gm 6 9] (.block 0 (.loop (some (Ex false [0,3,3,1,42])) agL))
theorem WS:ze Go.Proofs.Tryz.prog UH 115=some (SN,49,[]):=by kernel_rfl
noncomputable def agM:eA :=
 Gx [Gl 5 0,gO 6 [.iC (.func 137 [] []),.sl 5] (.call 3),Gm 7 6,cP 8 [.sl 1] 7 true .iS,⟨some 9,[.iC (.func 137 [] []),.sl 8],some (7,true),none,.call 3⟩,cP 10 [.hL 9] 7 true (.un .not),gO 11 [.hL 7,.hL 10,.iC (.bool false)] .pick,Gm 12 11,cP 13 [.hI 0] 12 false .iS,cP 14 [.hI 1] 12 false .iS,cP 15 [.hL 13,.hL 14] 12 false (.bin .lss),gO 16 [.hL 12,.iC (.bool true),.hL 15] .pick,Gm 4 16] .ret
noncomputable def XA:eA :=
 Gx [gO 4 [.iC (.bool false)] .iS] agM
theorem aeZ:ze Go.Proofs.Tryz.prog UI 121=some (XA,17,[.tmp 4]):=by kernel_rfl
noncomputable def ag6:eA :=
 Gx [Gl 3 0,Gm 4 0,FZ 5 3 4 .neq,Gm 2 5] .ret
noncomputable def XC:eA :=
 Gx [gO 2 [.iC (.bool false)] .iS] ag6
theorem ae1:ze Go.Proofs.Tryz.prog UO 137=some (XC,6,[.tmp 2]):=by kernel_rfl
end Go.Proofs.YtfakoboiahbhaaaGreat.Ab


namespace Go.Proofs.YtfakoboiahbhaaaGreat.Ab
open Go
set_option maxRecDepth 20000
set_option maxHeartbeats 4000000
theorem aeR (x:Int):qg 137 [hR x] (B false):=by
 refine F5 dJ ae1 rfl rfl ?_;unfold XC;conv=>whnf
 exact Gt (.inr rfl) rfl (by rw [decide_eq_false (show ¬ (x≠x) from fun h=>h rfl)];rfl)
theorem aeW (x y:Int):qg 121 [hR x,hR y] (B (decide (x<y))):=by
 refine F5 dJ aeZ rfl rfl ?_;unfold XA;conv=>whnf
 refine ⟨by first | rfl | simp only [tr,tY,LW,L4,LX,LZ,LY,L0,L6,L5,JR,L1,L2,L3,tS,uH],_,aeR x,?_⟩
 conv=>whnf
 exact Gt (.inr rfl) rfl rfl
def I7 (d:Array Int):au:=.cells (d.toList.map hR)
def HV (id n:Nat):I:=.ref id 0 n none 1
theorem acy (d:Array Int) (x:Nat) (h:x<d.size):(d.toList.map hR)[x]?=some (hR d[x]!):=by
 simp [h]
theorem acz (d:Array Int) (x:Nat) (v:Int):(d.toList.map hR).set x (hR v)=(d.setIfInBounds x v).toList.map hR:=by
 simp [uN]
theorem swp_size (d:Array Int) (i j:Nat):(Sort.swp d i j).size=d.size:=by simp [Sort.swp]
theorem Pf {d:Array Int} {n:Nat} (x:Nat) (e:n=x) (h:x<d.size) {K:I→Prop} (k:K (hR d[x]!)):eR (d.toList.map hR) n K:=by
 subst e;exact DU (acy d n h) k
theorem Zl {d:Array Int} {n:Nat} {v:Int} (x:Nat) (e:n=x) (h:x<d.size) {K:List I→Prop} (k:K ((d.setIfInBounds x v).toList.map hR)):je (d.toList.map hR) n (hR v) K:=by
 subst e;refine FI (by simpa using h) ?_;rw [acz];exact k
section
variable {H:List au} {id lo:Nat} (bD:lo≤id)
include bD
theorem aeQ (d:Array Int) (a b:Nat) (aZ:d.size≤1000) (cd:a≤b) (ag:b≤d.size) (ah:H[id]?=some (I7 d)) :
  Sem Go.Proofs.Tryz.prog (.fn 115) [HV id d.size,hR a,hR b] H lo (.tuple []) (H.set id (I7 (Sort.insertionSort Sort.ltInt d a b))):=by
 have aE:=(sa.1 ah).1;refine Q7 dJ WS rfl ⟨by simp,fun j ad af=>by rw [si (by omega)]⟩ ?_;unfold SN;conv=>whnf
 have Ca:Nat.ble lo id=true:=ue bD;have gs:∀ c:au,(H.set id c)[id]?=some c:=fun c=>by rw [sg aE]
 have H2:∀ c e:au,((H.set id c).set id e)[id]?=some e:=fun c e=>by rw [sQ,gs]
 rw [q5 a (by omega)];refine .intro (fun m T H'=>∃ i gS,a+1≤i∧(i≤b∨i=a+1)∧m=b+1-i∧gS.size=d.size∧Sort.insOuter Sort.ltInt a b i gS=Sort.insertionSort Sort.ltInt d a b∧T=GD 49 [(0,HV id d.size),(1,hR a),(2,hR b),(6,hR i)]∧H'=H.set id (I7 gS)) (b-a) ⟨a+1,d,by omega,.inr rfl,by omega,rfl,rfl,rfl,?_⟩ ?_
 ·obtain ⟨ad,af⟩:=sa.1 ah;rw [←af,uI]
 rintro m T H' ⟨i,gS,ad8,Wp,rfl,Ck,he,rfl,rfl⟩;conv=>whnf
 refine Hs (fun h=>?_) (fun h=>?_)
 ·conv=>whnf
  refine .intro (fun j T H'=>∃ rb:Array Int,j≤i∧rb.size=d.size∧Sort.insInner Sort.ltInt a j rb=Sort.insInner Sort.ltInt a i gS∧T=GD 49 [(0,HV id d.size),(1,hR a),(2,hR b),(6,hR i),(7,hR j)]∧H'=H.set id (I7 rb)) i ⟨gS,sb _,Ck,rfl,rfl,rfl⟩ ?_;rintro j T H' ⟨rb,aw,KL,KM,rfl,rfl⟩;conv=>whnf
  by_cases aG:(a:Int)<(j:Int)
  ·rw [decide_eq_true aG];obtain ⟨q,rfl⟩:∃ q,j=q+1:=⟨j-1,by omega⟩;(have hw:IntKind.i64.wrap (((q+1:Nat):Int)-1)=(q:Int):=by rw [Ih _ (by omega) (by omega)];omega);(conv=>whnf);refine ⟨by omega,?_⟩;(conv=>whnf);refine DU (by first | exact gs _ | exact H2 _ _ | assumption) ?_
   (conv=>whnf);refine Pf (q+1) (by omega) (by omega) ?_;(conv=>whnf);rw [hw];refine ⟨by omega,?_⟩;(conv=>whnf);refine DU (by first | exact gs _ | exact H2 _ _ | assumption) ?_
   (conv=>whnf);refine Pf (q) (by omega) (by omega) ?_;(conv=>whnf);refine ⟨by first | rfl | simp only [tr,tY,LW,L4,LX,LZ,LY,L0,L6,L5,JR,L1,L2,L3,tS,uH],_,aeW rb[q+1]! rb[q]!,IE,?_⟩
   (conv=>whnf);by_cases a6:rb[q+1]!<rb[q]!
   ·rw [decide_eq_true a6];(conv=>whnf);rw [hw];refine ⟨by omega,?_⟩;(conv=>whnf);refine DU (by first | exact gs _ | exact H2 _ _ | assumption) ?_
    (conv=>whnf);refine Pf (q) (by omega) (by omega) ?_;(conv=>whnf);refine ⟨by omega,?_⟩;(conv=>whnf);refine DU (by first | exact gs _ | exact H2 _ _ | assumption) ?_
    (conv=>whnf);refine Pf (q+1) (by omega) (by omega) ?_;(conv=>whnf);refine ⟨by omega,?_⟩;(conv=>whnf);rw [Ca];(conv=>whnf);refine DU (by first | exact gs _ | exact H2 _ _ | assumption) ?_
    (conv=>whnf);refine Zl (q+1) (by omega) (by first | omega | (simp only [ux];omega)) ?_
    (conv=>whnf);refine ⟨by omega,?_⟩;(conv=>whnf);rw [Ca];(conv=>whnf);refine DU (by first | exact gs _ | exact H2 _ _ | assumption) ?_
    (conv=>whnf);refine Zl (q) (by omega) (by first | omega | (simp only [ux];omega)) ?_
    (conv=>whnf);refine ⟨q,by omega,Sort.swp rb (q+1) q,by omega,by rw [swp_size];exact KL,?_,?_,?_⟩
    ·rw [←KM,Sort.insInner,if_pos (by simp only [Sort.ltInt,sx,decide_eq_true_eq];exact ⟨by omega,a6⟩)]
    ·rw [hw];rfl
    ·simp only [sQ];rfl
   ·rw [decide_eq_false a6];(conv=>whnf);have e:Sort.insInner Sort.ltInt a i gS=rb:=by
     rw [←KM,Sort.insInner,if_neg (by simp only [Sort.ltInt,sx,decide_eq_true_eq];exact fun bI=>a6 bI.2)]
    exact ⟨b+1-(i+1),by omega,i+1,rb,by omega,by omega,rfl,KL,by rw [←he,Sort.insOuter.eq_1 _ a b i,if_pos (by omega),e],by rw [←q5 i (by omega)];rfl,rfl⟩
  ·rw [decide_eq_false aG];(conv=>whnf);have e:Sort.insInner Sort.ltInt a i gS=rb:=by
    rw [←KM];cases j with
    | zero=>rfl
    | succ q=>rw [Sort.insInner,if_neg (by simp only [sx,decide_eq_true_eq];exact fun bI=>by omega)]
   exact ⟨b+1-(i+1),by omega,i+1,rb,by omega,by omega,rfl,KL,by rw [←he,Sort.insOuter.eq_1 _ a b i,if_pos (by omega),e],by rw [←q5 i (by omega)];rfl,rfl⟩
 ·conv=>whnf
  have e:Sort.insertionSort Sort.ltInt d a b=gS:=by
   rw [←he];unfold Sort.insOuter;rw [if_neg (by omega)]
  rw [e];exact ⟨.inl rfl,⟨by simp,fun j o aw=>.inr aw⟩,rfl⟩
theorem ahU {l:List au} {i:Nat} {x:au} (h:l[i]?=some x):l.set i x=l:=by
 obtain ⟨ad,af⟩:=sa.1 h;rw [←af,uI]
theorem agu (d:Array Int) (IZ:Int) (aZ:d.size≤12) (ah:H[id]?=some (I7 d)) :
  Sem Go.Proofs.Tryz.prog (.fn 96) [HV id d.size,hR 0,hR d.size,hR IZ] H lo (.tuple []) (H.set id (I7 (Sort.insertionSort Sort.ltInt d 0 d.size))):=by
 refine G4 dJ WZ rfl ⟨by simp,fun j ad af=>by rw [si (by omega)]⟩ fun Q bl=>?_;unfold Ty;obtain ⟨QQ,IV⟩:∃ c,NA=c:=⟨_,rfl⟩;rw [IV];conv=>whnf
 refine .intro (fun m T H'=>T=GD 134 [(0,HV id d.size),(1,hR 0),(2,hR d.size),(3,hR IZ),(8,B true),(9,B true)]∧H'=H) 0 ⟨rfl,rfl⟩ ?_;rintro m T H' ⟨rfl,rfl⟩;subst IV;unfold NA;obtain ⟨a',cb⟩:∃ c,Nz=c:=⟨_,rfl⟩;obtain ⟨QP,KH⟩:∃ c,Tz=c:=⟨_,rfl⟩;rw [cb,KH];conv=>whnf
 rw [show IntKind.i64.wrap ((d.size:Int)-0)=(d.size:Int) by rw [Ih _ (by omega) (by omega)];omega,decide_eq_true (show (d.size:Int)≤12 by omega)];conv=>whnf
 subst cb;unfold Nz;conv=>whnf
 refine ⟨_,_,Ha (aeQ bD d 0 d.size (by omega) (sr _) (sb _) ah),?_⟩;conv=>whnf
 exact bl _ _ _ ⟨.inr rfl,⟨rfl,fun j o aw=>.inr aw⟩,rfl⟩
end
theorem Zn (n:Int):IntKind.u64.wrap n=n % 18446744073709551616:=by simp [IntKind.wrap,IntKind.bits,IntKind.signed]
theorem aeV:((List.range 13).all fun n=>match Ph [] 97 [.int .u64 (n:Nat)] with | some v=>HY 3 v (hR (Sort.bitsLen n)) | none=>false)=true:=by kernel_rfl
theorem N_ (n:Nat) (h:n≤12):qg 97 [.int .u64 n] (hR (Sort.bitsLen n)):=by
 have:=sC.1 aeV n (sJ.2 (by omega));split at this
 ·rename_i v ae;rw [Lz _ _ _ this] at ae;exact GN (l:=[]) (by simp) ae
 ·cases this
theorem ahV {H:List au} {id lo:Nat} (bD:lo≤id) (d:Array Int) (aZ:d.size≤12) (ah:H[id]?=some (I7 d)) :
  Sem Go.Proofs.Tryz.prog (.fn 73) [HV id d.size] H lo (.tuple []) (H.set id (I7 (Sort.insertionSort Sort.ltInt d 0 d.size))):=by
 refine G4 dJ WW rfl ⟨by simp,fun j ad af=>by rw [si (by omega)]⟩ fun Q bl=>?_;unfold S6;conv=>whnf
 rw [show IntKind.u64.wrap (d.size:Int)=(d.size:Int) by rw [Zn];omega];refine ⟨by first | rfl | simp only [tr,tY,LW,L4,LX,LZ,LY,L0,L6,L5,JR,L1,L2,L3,tS,uH],_,N_ d.size aZ,?_⟩
 conv=>whnf
 refine ⟨_,_,Ha (agu bD d (Sort.bitsLen d.size) aZ ah),?_⟩;conv=>whnf
 exact bl _ _ _ ⟨.inl rfl,⟨rfl,fun j o aw=>.inr aw⟩,rfl⟩
end Go.Proofs.YtfakoboiahbhaaaGreat.Ab


namespace Go.Proofs.YtfakoboiahbhaaaGreat.Ab
open Go
noncomputable def agH:eA :=
 .j2 false [Gm 7 0,Gl 8 4,Gm 9 4,gO 10 [.hL 9] (.conv .u64),gO 11 [.iC (.func 97 [] []),.sl 10] (.call 3),Gm 12 1,gO 13 [.iC (.func 127 [] []),.hI 7,.iC (.int .i64 0),.hI 8,.hI 11,.hI 12] (.call 1)]
noncomputable def Sp:eA :=
 Gx [Gl 5 0,Gi 6 5,Gm 4 6] agH
theorem WN:ze Go.Proofs.Tryz.prog Uy 102=some (Sp,14,[]):=by kernel_rfl
noncomputable def Nv:eA :=
 Gx [Gm 26 0,Gm 27 1,Gm 28 2,Gm 29 4,gO 30 [.iC (.func 138 [] []),.hI 26,.hI 27,.hI 28,.hI 29] (.call 1)] .ret
noncomputable def agY:eA :=
 Gx [Gm 33 0,Gm 34 1,Gm 35 2,Gm 36 4,gO 37 [.iC (.func 139 [] []),.hI 33,.hI 34,.hI 35,.hI 36] (.call 1)] .ret
noncomputable def agZ:eA :=
 Gx [Gl 40 0,Gl 41 1,Gl 42 2,Gl 43 4,gO 44 [.iC (.func 140 [] []),.hI 40,.hI 41,.hI 42,.hI 43] (.call 1)] (Gq [Gm 45 3,FY 46 45 1 .sub,Gm 3 46])
noncomputable def ag0:eA :=
 Gx [Gl 62 2,FY 63 62 1 .sub,Gm 64 13,Gl 65 1,FZ 66 64 65 .sub,FZ 67 63 66 .sub,Gm 13 67] (Gq [Gk 14 1])
noncomputable def ag1:eA :=
 Gx [Gl 57 0,Gl 58 1,Gl 59 2,Gl 60 4,gO 61 [.iC (.func 142 [] []),.hI 57,.hI 58,.hI 59,.hI 60] (.call 1)] ag0
noncomputable def ag2:eA :=
 Gx [Gl 76 0,Gl 77 1,Gl 78 2,Gl 79 4,gO 80 [.iC (.func 143 [] []),.hI 76,.hI 77,.hI 78,.hI 79] (.call 1)] (.cond (.sl 80) .ret .skip)
noncomputable def ag3:eA :=
 Gx [Gl 98 0,Gm 99 1,Gl 100 2,Gm 101 13,Gl 102 4,gO 103 [.iC (.func 144 [] []),.hI 98,.hI 99,.hI 100,.hI 101,.hI 102] (.call 1),Gm 15 103] (Gx [Gm 104 15,Gm 1 104] (.exit 1))
noncomputable def ag4:eA :=
 Gx [Gl 129 0,Gm 130 1,Gl 131 16,Gl 132 3,Gl 133 4,gO 134 [.iC (.func 127 [] []),.hI 129,.hI 130,.hI 131,.hI 132,.hI 133] (.call 1)] (Gq [Gm 135 16,FX 136 135 1,Gm 1 136])
noncomputable def ag5:eA :=
 Gx [Gm 126 18,Gm 127 20,FZ 128 126 127 .geq,Gm 10 128] ag4
noncomputable def agQ:eA :=
 Gx [Gl 140 0,Gl 141 16,FX 142 141 1,Gm 143 2,Gl 144 3,Gl 145 4,gO 146 [.iC (.func 127 [] []),.hI 140,.hI 142,.hI 143,.hI 144,.hI 145] (.call 1)] (Gq [Gm 147 16,Gm 2 147])
noncomputable def agR:eA :=
 Gx [Gm 137 19,Gm 138 20,FZ 139 137 138 .geq,Gm 10 139] agQ
noncomputable def agS:eA :=
 Gx [Gm 121 12,FY 122 121 8 .quo,Gm 20 122] (Gx [Gl 123 18,Gl 124 19,FZ 125 123 124 .lss] (.cond (.sl 125) ag5 agR))
noncomputable def agT:eA :=
 Gx [Gl 115 16,Gl 116 1,FZ 117 115 116 .sub,Gl 118 2,Gl 119 16,FZ 120 118 119 .sub,Gm 18 117,Gm 19 120] agS
noncomputable def agU:eA :=
 Gx [Gl 106 0,Gl 107 1,Gl 108 2,Gm 109 13,Gl 110 4,gO 111 [.iC (.func 145 [] []),.hI 106,.hI 107,.hI 108,.hI 109,.hI 110] (.call 1),Gm 105 111,GH 112 105 0,gO 113 [.hL 105] (.ext 1),Gm 16 112,Gm 17 113] (Gx [Gm 114 17,Gm 11 114] agT)
noncomputable def agV:eA :=
 .seq (.seq (Gr [Gl 81 1,FY 82 81 0 .gtr,Gm 83 82,cP 84 [.sl 4] 83 true .iS,cP 85 [.sl 0] 83 true .iS,cP 86 [.sl 1] 83 true .iS,cP 87 [.hL 86,.iC (.int .i64 1)] 83 true (.bin .sub),cP 88 [.hL 85,.hL 87] 83 true (.pO 1),cP 89 [.hL 88] 83 true (.pV .one),cP 90 [.sl 0] 83 true .iS,cP 91 [.sl 13] 83 true .iS,cP 92 [.hL 90,.hL 91] 83 true (.pO 1),cP 93 [.hL 92] 83 true (.pV .one),cP 94 [.sl 84,.sl 89,.sl 93] 83 true (.call 6),cP 95 [.hL 94,.iC (.int .i64 0)] 83 true (.bin .lss),cP 96 [.hL 95] 83 true (.un .not),gO 97 [.sl 83,.hL 96,.iC (.bool false)] .pick]) (.cond (.sl 97) ag3 .skip)) agU
noncomputable def agW:eA :=
 .seq (Gx [Gl 68 10,Gm 69 68,cP 70 [.sl 11] 69 true .iS,gO 71 [.hL 69,.hL 70,.iC (.bool false)] .pick,Gm 72 71,cP 73 [.hI 14] 72 true .iS,cP 74 [.hL 73,.iC (.int .i64 1)] 72 true (.bin .eql),gO 75 [.hL 72,.hL 74,.iC (.bool false)] .pick] (.cond (.sl 75) ag2 .skip)) agV
noncomputable def agX:eA :=
 Gx [Gl 48 0,Gl 49 1,Gl 50 2,Gl 51 4,gO 52 [.iC (.func 141 [] []),.hI 48,.hI 49,.hI 50,.hI 51] (.call 1),Gm 47 52,GH 53 47 0,gO 54 [.hL 47] (.ext 1),Gm 13 53,Gm 14 54] (.seq (Gx [Gl 55 14,FY 56 55 2 .eql] (.cond (.sl 56) ag1 .skip)) agW)
noncomputable def SQ:eA :=
 .seq (Gx [Gl 31 3,FY 32 31 0 .eql] (.cond (.sl 32) agY .skip)) (.seq (Gx [Gl 38 10,gO 39 [.hL 38] (.un .not)] (.cond (.sl 39) agZ .skip)) agX)
noncomputable def Nw:eA :=
 .block 1 (Gx [Gl 21 2,Gl 22 1,FZ 23 21 22 .sub,Gm 12 23] (.seq (Gx [Gl 24 12,FY 25 24 12 .leq] (.cond (.sl 25) Nv .skip)) SQ))
noncomputable def SP:eA :=
 Gx [gO 10 [.iC (.bool true)] .iS] (Gx [gO 11 [.iC (.bool true)] .iS] (.block 0 (.loop (some (Ex false [0,5,5,2,136])) Nw)))
theorem WU:ze Go.Proofs.Tryz.prog UK 127=some (SP,148,[]):=by kernel_rfl
noncomputable def ag7:eA :=
 .block 3 (Gr [Gl 37 0,Gl 38 9,Gl 39 0,Gl 40 9,FY 41 40 1 .sub,Gl 42 0,Gl 43 9,FY 44 43 1 .sub,Gf 45 42 44 1,Gj 46 45,Gl 47 0,Gl 48 9,Gf 49 47 48 1,Gj 50 49,Gf 51 37 38 1,⟨none,[.hI 51,.hI 46],none,none,.st 1⟩,Gf 52 39 41 1,⟨none,[.hI 52,.hI 50],none,none,.st 1⟩])
noncomputable def ag8:eA :=
 .seq (.seq (Gr [Gl 18 9,Gl 19 1,FZ 20 18 19 .gtr,Gm 21 20,cP 22 [.sl 3] 21 true .iS,cP 23 [.sl 0] 21 true .iS,cP 24 [.sl 9] 21 true .iS,cP 25 [.hL 23,.hL 24] 21 true (.pO 1),cP 26 [.hL 25] 21 true (.pV .one),cP 27 [.sl 0] 21 true .iS,cP 28 [.sl 9] 21 true .iS,cP 29 [.hL 28,.iC (.int .i64 1)] 21 true (.bin .sub),cP 30 [.hL 27,.hL 29] 21 true (.pO 1),cP 31 [.hL 30] 21 true (.pV .one),cP 32 [.sl 22,.sl 26,.sl 31] 21 true (.call 6),cP 33 [.hL 32,.iC (.int .i64 0)] 21 true (.bin .lss),gO 34 [.sl 21,.hL 33,.iC (.bool false)] .pick]) (.cond (.sl 34) .skip (.exit 2))) (.seq ag7 (Gq [Gm 35 9,FY 36 35 1 .sub,Gm 9 36]))
noncomputable def ag9:eA :=
 .block 1 (Gx [Gl 17 8,Gm 9 17] (.block 2 (.loop (some (Ex false [0,4,4,2,43])) ag8)))
noncomputable def ag_:eA :=
 .seq (Gx [Gl 12 8,Gl 13 2,FZ 14 12 13 .lss] (.cond (.sl 14) .skip (.exit 0))) (.seq ag9 (Gq [Gm 15 8,FX 16 15 1,Gm 8 16]))
noncomputable def SV:eA :=
 Gx [Gl 10 1,FX 11 10 1,Gm 8 11] (.block 0 (.loop (some (Ex false [0,4,4,1,44])) ag_))
theorem WV:ze Go.Proofs.Tryz.prog UP 138=some (SV,53,[]):=by kernel_rfl
noncomputable def agN:eA :=
 Gx [Gl 11 1,Gl 12 0,Gl 13 5,Gf 14 12 13 1,Gj 15 14,gO 16 [.sl 11,.sl 15] (.call 6)] (.cond (.sl 16) (Gx [Gm 17 5,Gm 4 17] .ret) .skip)
noncomputable def agO:eA :=
 .block 1 (Gx [Gl 10 8,Gm 5 10] agN)
noncomputable def agP:eA :=
 .seq (Gx [Gl 6 0,Gi 7 6,Gk 8 0] (.block 0 (.loop (some (Ex false [0,2,5,2,10])) (Gx [gO 9 [.sl 8,.sl 7] (.bin .lss)] (.seq (.cond (.sl 9) .skip (.exit 0)) (.seq agO (Gq [FX 18 8 1,Gm 8 18]))))))) (Gx [Gk 4 (-1)] .ret)
noncomputable def SO:eA :=
 Gx [Gk 4 0] agP
theorem WT:ze Go.Proofs.Tryz.prog UJ 126=some (SO,19,[.tmp 4]):=by kernel_rfl
noncomputable def S8:eA :=
 Gx [Gl 45 0,Gl 46 3,Gl 47 4,Gl 48 5,Gf 49 47 48 1,Gj 50 49,Gf 51 45 46 1,⟨none,[.hI 51,.hI 50],none,none,.st 1⟩] (Gq [Gm 52 3,FX 53 52 1,Gm 3 53])
noncomputable def XE:eA :=
 .block 3 (.seq (Gr [Gl 35 4,Gl 36 5,Gf 37 35 36 1,Gj 38 37,Gl 39 4,Gl 40 5,FY 41 40 1 .sub,Gf 42 39 41 1,Gj 43 42,FZ 44 38 43 .neq]) (.cond (.sl 44) S8 .skip))
noncomputable def S9:eA :=
 .seq (Gx [Gl 29 5,Gl 30 4,Gi 31 30,FZ 32 29 31 .lss] (.cond (.sl 32) .skip (.exit 2))) (.seq XE (Gq [Gm 33 5,FX 34 33 1,Gm 5 34]))
noncomputable def XF:eA :=
 Gx [Gm 57 0,Gm 58 3,gO 59 [.hI 57,.hI 58] (.AW 1 false true false),Gm 2 59] .ret
noncomputable def S_:eA :=
 Gx [Gl 54 0, Gl 55 3, gO 56 [.hI 54, .hI 55] (.AW 1 true false false), ⟨none, [.hI 56], none, none, .other (Oper.mk none (Op.call (Call.mk (Callee.builtin Builtin.clear) (Array.mk [Operand.tmp 56]) (Array.mk [38]))) 0 "slices.go:385" (Array.mk [Edge.mk 2 Ground.data]) none) 0⟩] XF
noncomputable def Ta:eA :=
 Gx [Gl 26 0,Gl 27 3,gO 28 [.hI 26,.hI 27] (.AW 1 true false false),Gm 4 28] (.seq (Gx [Gk 5 1] (.block 2 (.loop (some (Ex false [0,1,2,3,55])) S9))) S_)
noncomputable def XG:eA :=
 .block 1 (.seq (Gr [Gl 16 0,Gl 17 3,Gf 18 16 17 1,Gj 19 18,Gl 20 0,Gl 21 3,FY 22 21 1 .sub,Gf 23 20 22 1,Gj 24 23,FZ 25 19 24 .eql]) (.cond (.sl 25) Ta .skip))
noncomputable def Ny:eA :=
 .seq (Gx [Gl 10 3,Gl 11 0,Gi 12 11,FZ 13 10 12 .lss] (.cond (.sl 13) .skip (.exit 0))) (.seq XG (Gq [Gm 14 3,FX 15 14 1,Gm 3 15]))
noncomputable def L7:eA :=
 .seq (Gx [⟨some 6,[.hI 0],none,some 0,.A5⟩,Gi 7 6,FY 8 7 2 .lss] (.cond (.sl 8) (Gx [Gm 9 0,Gm 2 9] .ret) .skip)) (.seq (Gx [Gk 3 1] (.block 0 (.loop (some (Ex false [0,1,2,1,57])) Ny))) (Gx [Gm 60 0,Gm 2 60] .ret))
noncomputable def S7:eA :=
 Gx [gO 2 [.iC (.ay [] 0 .full)] (.nil 1)] L7
theorem WX:ze Go.Proofs.Tryz.prog QI 74=some (S7,61,[.tmp 2]):=by kernel_rfl
noncomputable def Np:eA :=
 Gx [Gl 30 0,Gl 31 5,Gm 32 7,Gf 33 30 31 1,⟨none,[.hI 33,.hI 32],none,none,.st 1⟩] (Gq [Gm 34 5,FX 35 34 1,Gm 5 35])
noncomputable def Nq:eA :=
 Gx [Gl 26 1,Gl 27 7,gO 28 [.sl 26,.sl 27] (.call 6),gO 29 [.hL 28] (.un .not)] (.cond (.sl 29) Np .skip)
noncomputable def SF:eA :=
 .block 1 (Gx [Gl 22 0,Gl 23 6,Gf 24 22 23 1,Gj 25 24,Gm 7 25] Nq)
noncomputable def Nr:eA :=
 .seq (Gx [Gl 16 6,Gl 17 0,Gi 18 17,FZ 19 16 18 .lss] (.cond (.sl 19) .skip (.exit 0))) (.seq SF (Gq [Gm 20 6,FX 21 20 1,Gm 6 21]))
noncomputable def Ns:eA :=
 Gx [Gm 39 0,Gm 40 5,gO 41 [.hI 39,.hI 40] (.AW 1 false true false),Gm 4 41] .ret
noncomputable def Nt:eA :=
 Gx [Gl 36 0, Gl 37 5, gO 38 [.hI 36, .hI 37] (.AW 1 true false false), ⟨none, [.hI 38], none, none, .other (Oper.mk none (Op.call (Call.mk (Callee.builtin Builtin.clear) (Array.mk [Operand.tmp 38]) (Array.mk [38]))) 0 "slices.go:253" (Array.mk [Edge.mk 2 Ground.data]) none) 0⟩] Ns
noncomputable def Nu:eA :=
 .seq (Gx [Gl 11 5,FY 12 11 (-1) .eql] (.cond (.sl 12) (Gx [Gm 13 0,Gm 4 13] .ret) .skip)) (.seq (Gx [Gl 14 5,FX 15 14 1,Gm 6 15] (.block 0 (.loop (some (Ex false [0,2,3,2,35])) Nr))) Nt)
noncomputable def SG:eA :=
 Gx [⟨some 8,[.hI 0],none,some 0,.A5⟩,Gl 9 1,gO 10 [.iC (.func 114 [] []),.sl 8,.sl 9] (.call 6),Gm 5 10] Nu
noncomputable def SE:eA :=
 Gx [gO 4 [.iC (.ay [] 0 .full)] (.nil 1)] SG
theorem WR:ze Go.Proofs.Tryz.prog UB 107=some (SE,42,[.tmp 4]):=by kernel_rfl
end Go.Proofs.YtfakoboiahbhaaaGreat.Ab


namespace Go.Proofs.YtfakoboiahbhaaaGreat.Ab
open Go
set_option maxRecDepth 20000
set_option maxHeartbeats 4000000
noncomputable def aam:eA :=
 Gx [Gk 4 0] (.seq (Gr [Gm 5 0,gO 6 [.hL 5,.iC (.int .i64 0)] (.pO 1),Gj 7 6,Gm 8 1,gO 9 [.hL 8,.iC (.int .i64 0)] (.pO 1),Gj 10 9,FZ 11 7 10 .sub,Gm 4 11]) .ret)
theorem ae8:ze Tryz.prog Uz 103=some (aam,12,[.tmp 4]):=by kernel_rfl
def TX (x y:qa):Option Int :=
 p6 (0≤(0:Int)∧(0:Int)<(x.length:Int)) <|
 p6 (0≤(0:Int)∧(0:Int)<(y.length:Int)) <|
 some (w ((ix x (0:Int))-(ix y (0:Int))))
theorem ajf {x:qa} {y:qa} {v:Int} (h:TX x y=some v):qg 103 [(.ay (x.map hR) x.length .shared),(.ay (y.map hR) y.length .shared)] (hR v):=by
 refine qB dJ ae8 rfl rfl fun Q bl=>?_;have jy:qn [.tmp 4] Q (fun v=>(hR v)) v:=fun T H bI=>bl _ T H bI;unfold TX at h;unfold aam;conv=>whnf
 refine qm h id fun eW h=>?_;rw [rP hR x (0:Int) eW];conv=>whnf
 refine qm h id fun fm h=>?_;rw [rP hR y (0:Int) fm];conv=>whnf
 exact p4 h jy rfl rfl

theorem ah8 (d:Array (List Int)) (i j:Nat):(Sort.swp d i j).size=d.size:=by simp [Sort.swp]
theorem swp_get (d:Array (List Int)) (i j x:Nat) (hi:i<d.size) (aw:j<d.size):∃ y,y<d.size∧(x<d.size→(Sort.swp d i j)[x]! = d[y]!):=by
 by_cases al:x<d.size
 ·by_cases af:x=j
  ·exact ⟨i,hi,fun _=>by subst af;simp [Sort.swp,aw]⟩
  ·by_cases ad:x=i
   ·exact ⟨j,aw,fun _=>by subst ad;simp [Sort.swp,hi,Array.getElem_setIfInBounds,Ne.symm af]⟩
   ·exact ⟨x,al,fun _=>by simp [Sort.swp,al,Array.getElem_setIfInBounds,Ne.symm ad,Ne.symm af]⟩
 ·exact ⟨i,hi,fun h=>absurd h al⟩
def I8 (g:Nat) (d:Array (List Int)):au:=.grow (d.toList.map jj) g 1
theorem acD (d:Array (List Int)) (x:Nat) (h:x<d.size):(d.toList.map jj)[x]?=some (jj d[x]!):=by
 simp [h]
theorem acE (d:Array (List Int)) (x:Nat) (v:List Int):(d.toList.map jj).set x (jj v)=(d.setIfInBounds x v).toList.map jj:=by
 simp [uN]
theorem Pg {d:Array (List Int)} {n:Nat} (x:Nat) (e:n=x) (h:x<d.size) {K:I→Prop} (k:K (jj d[x]!)):eR (d.toList.map jj) n K:=by
 subst e;exact DU (acD d n h) k
theorem Zm {d:Array (List Int)} {n:Nat} {v:List Int} (x:Nat) (e:n=x) (h:x<d.size) {K:List I→Prop} (k:K ((d.setIfInBounds x v).toList.map jj)):je (d.toList.map jj) n (jj v) K:=by
 subst e;refine FI (by simpa using h) ?_;rw [acE];exact k
def J0 (l:List Int):Prop:=l≠[]∧0≤ix l 0∧ix l 0≤1000
def Hx (x y:List Int):Bool:=decide (ix x 0<ix y 0)
theorem acK {x y:List Int} (al:J0 x) (a0:J0 y):∃ r:Int,qg 103 [jj x,jj y] (hR r)∧decide (r<0)=Hx x y:=by
 refine ⟨ix x 0-ix y 0,ajf ?_,?_⟩
 ·have ad:=ug.2 al.1;have af:=ug.2 a0.1;rw [TX,qe ⟨by omega,by omega⟩,qe ⟨by omega,by omega⟩,HH (by have:=al.2;have:=a0.2;omega)]
 ·unfold Hx;congr 1;exact propext (by omega)
section
variable {H:List au} {id lo g:Nat} (bD:lo≤id)
include bD
theorem aeP (d:Array (List Int)) (a b:Nat) (aZ:d.size≤1000) (cd:a≤b) (ag:b≤d.size) (ah:H[id]?=some (I8 g d)) (MZ:∀ x,x<d.size→J0 d[x]!) :
  Sem Go.Proofs.Tryz.prog (.fn 138) [HV id d.size,hR a,hR b,.func 103 [] []] H lo (.tuple []) (H.set id (I8 g (Sort.insertionSort Hx d a b))):=by
 have aE:=(sa.1 ah).1;refine Q7 dJ WV rfl ⟨by simp,fun j ad af=>by rw [si (by omega)]⟩ ?_;unfold SV;conv=>whnf
 have Ca:Nat.ble lo id=true:=ue bD;have gs:∀ c:au,(H.set id c)[id]?=some c:=fun c=>by rw [sg aE]
 have H2:∀ c e:au,((H.set id c).set id e)[id]?=some e:=fun c e=>by rw [sQ,gs]
 rw [q5 a (by omega)];refine .intro (fun m T H'=>∃ i gS,a+1≤i∧(i≤b∨i=a+1)∧m=b+1-i∧gS.size=d.size∧(∀ x,x<d.size→J0 gS[x]!)∧Sort.insOuter Hx a b i gS=Sort.insertionSort Hx d a b∧T=GD 53 [(0,HV id d.size),(1,hR a),(2,hR b),(3,.func 103 [] []),(8,hR i)]∧H'=H.set id (I8 g gS)) (b-a) ⟨a+1,d,by omega,.inr rfl,by omega,rfl,MZ,rfl,rfl,?_⟩ ?_
 ·obtain ⟨ad,af⟩:=sa.1 ah;rw [←af,uI]
 rintro m T H' ⟨i,gS,ad8,Wp,rfl,Ck,B8,he,rfl,rfl⟩;conv=>whnf
 refine Hs (fun h=>?_) (fun h=>?_)
 ·conv=>whnf
  refine .intro (fun j T H'=>∃ rb:Array (List Int),j≤i∧rb.size=d.size∧(∀ x,x<d.size→J0 rb[x]!)∧Sort.insInner Hx a j rb=Sort.insInner Hx a i gS∧T=GD 53 [(0,HV id d.size),(1,hR a),(2,hR b),(3,.func 103 [] []),(8,hR i),(9,hR j)]∧H'=H.set id (I8 g rb)) i ⟨gS,sb _,Ck,B8,rfl,rfl,rfl⟩ ?_;rintro j T H' ⟨rb,aw,KL,MY,KM,rfl,rfl⟩;conv=>whnf
  by_cases aG:(a:Int)<(j:Int)
  ·rw [decide_eq_true aG];obtain ⟨y,rfl⟩:∃ y,j=y+1:=⟨j-1,by omega⟩;(have hw:IntKind.i64.wrap (((y+1:Nat):Int)-1)=(y:Int):=by rw [Ih _ (by omega) (by omega)];omega);obtain ⟨r,aj,C1⟩:=acK (MY (y+1) (by omega)) (MY y (by omega));(conv=>whnf);refine ⟨by omega,?_⟩;(conv=>whnf);refine DU (by first | exact gs _ | exact H2 _ _ | assumption) ?_
   (conv=>whnf);refine Pg (y+1) (by omega) (by first | omega | (simp only [ux];omega)) ?_
   (conv=>whnf);rw [hw];refine ⟨by omega,?_⟩;(conv=>whnf);refine DU (by first | exact gs _ | exact H2 _ _ | assumption) ?_
   (conv=>whnf);refine Pg (y) (by omega) (by first | omega | (simp only [ux];omega)) ?_
   (conv=>whnf);refine ⟨(pY (ra (fun _=>rfl) _ _ _) (pY (ra (fun _=>rfl) _ _ _) rfl)),[jj rb[y+1]!,jj rb[y]!],rfl,_,rfl,aj,IE,?_⟩;(conv=>whnf);rw [C1];by_cases a6:Hx rb[y+1]! rb[y]! = true
   ·rw [a6];(conv=>whnf);rw [hw];refine ⟨by omega,?_⟩;(conv=>whnf);refine DU (by first | exact gs _ | exact H2 _ _ | assumption) ?_
    (conv=>whnf);refine Pg (y) (by omega) (by first | omega | (simp only [ux];omega)) ?_
    (conv=>whnf);refine ⟨by omega,?_⟩;(conv=>whnf);refine DU (by first | exact gs _ | exact H2 _ _ | assumption) ?_
    (conv=>whnf);refine Pg (y+1) (by omega) (by first | omega | (simp only [ux];omega)) ?_
    (conv=>whnf);refine ⟨by omega,?_⟩;(conv=>whnf);rw [Ca];(conv=>whnf);refine DU (by first | exact gs _ | exact H2 _ _ | assumption) ?_
    (conv=>whnf);refine Zm (y+1) (by omega) (by first | omega | (simp only [ux];omega)) ?_
    (conv=>whnf);refine ⟨by omega,?_⟩;(conv=>whnf);rw [Ca];(conv=>whnf);refine DU (by first | exact gs _ | exact H2 _ _ | assumption) ?_
    (conv=>whnf);refine Zm (y) (by omega) (by first | omega | (simp only [ux];omega)) ?_
    (conv=>whnf);refine ⟨y,by omega,Sort.swp rb (y+1) y,by omega,by rw [ah8];exact KL,?_,?_,?_,?_⟩
    ·intro x al;obtain ⟨z,bm,bL⟩:=swp_get rb (y+1) y x (by omega) (by omega);rw [bL (by omega)];exact MY z (by omega)
    ·rw [←KM,Sort.insInner,if_pos (by simp only [sx,decide_eq_true_eq];exact ⟨by omega,a6⟩)]
    ·rw [hw];rfl
    ·simp only [sQ];rfl
   ·rw [Bool.not_eq_true] at a6;rw [a6];(conv=>whnf);have e:Sort.insInner Hx a i gS=rb:=by
     rw [←KM,Sort.insInner,if_neg (by simp only [sx,decide_eq_true_eq];exact fun bI=>by rw [a6] at bI;exact absurd bI.2 (by decide))]
    exact ⟨b+1-(i+1),by omega,i+1,rb,by omega,by omega,rfl,KL,MY,by rw [←he,Sort.insOuter.eq_1 _ a b i,if_pos (by omega),e],by rw [←q5 i (by omega)];rfl,rfl⟩
  ·rw [decide_eq_false aG];(conv=>whnf);have e:Sort.insInner Hx a i gS=rb:=by
    rw [←KM];cases j with
    | zero=>rfl
    | succ y=>rw [Sort.insInner,if_neg (by simp only [sx,decide_eq_true_eq];exact fun bI=>by omega)]
   exact ⟨b+1-(i+1),by omega,i+1,rb,by omega,by omega,rfl,KL,MY,by rw [←he,Sort.insOuter.eq_1 _ a b i,if_pos (by omega),e],by rw [←q5 i (by omega)];rfl,rfl⟩
 ·conv=>whnf
  have e:Sort.insertionSort Hx d a b=gS:=by
   rw [←he];unfold Sort.insOuter;rw [if_neg (by omega)]
  rw [e];exact ⟨.inl rfl,⟨by simp,fun j o aw=>.inr aw⟩,rfl⟩
theorem agw (d:Array (List Int)) (IZ:Int) (aZ:d.size≤12) (ah:H[id]?=some (I8 g d)) (MZ:∀ x,x<d.size→J0 d[x]!) :
  Sem Go.Proofs.Tryz.prog (.fn 127) [HV id d.size,hR 0,hR d.size,hR IZ,.func 103 [] []] H lo (.tuple []) (H.set id (I8 g (Sort.insertionSort Hx d 0 d.size))):=by
 refine G4 dJ WU rfl ⟨by simp,fun j ad af=>by rw [si (by omega)]⟩ fun Q bl=>?_;unfold SP;obtain ⟨QQ,IV⟩:∃ c,Nw=c:=⟨_,rfl⟩;rw [IV];conv=>whnf
 refine .intro (fun m T H'=>T=GD 148 [(0,HV id d.size),(1,hR 0),(2,hR d.size),(3,hR IZ),(4,.func 103 [] []),(10,B true),(11,B true)]∧H'=H) 0 ⟨rfl,rfl⟩ ?_;rintro m T H' ⟨rfl,rfl⟩;subst IV;unfold Nw;obtain ⟨a',cb⟩:∃ c,Nv=c:=⟨_,rfl⟩;obtain ⟨QP,KH⟩:∃ c,SQ=c:=⟨_,rfl⟩;rw [cb,KH];conv=>whnf
 rw [show IntKind.i64.wrap ((d.size:Int)-0)=(d.size:Int) by rw [Ih _ (by omega) (by omega)];omega,decide_eq_true (show (d.size:Int)≤12 by omega)];conv=>whnf
 subst cb;unfold Nv;conv=>whnf
 refine ⟨_,_,Ha (aeP bD d 0 d.size (by omega) (sr _) (sb _) ah MZ),?_⟩;conv=>whnf
 exact bl _ _ _ ⟨.inr rfl,⟨rfl,fun j o aw=>.inr aw⟩,rfl⟩
end
theorem ah1 {H:List au} {id lo g:Nat} (bD:lo≤id) (d:Array (List Int)) (aZ:d.size≤12) (ah:H[id]?=some (I8 g d)) (MZ:∀ x,x<d.size→J0 d[x]!) :
  Sem Go.Proofs.Tryz.prog (.fn 102) [HV id d.size,.func 103 [] []] H lo (.tuple []) (H.set id (I8 g (Sort.insertionSort Hx d 0 d.size))):=by
 refine G4 dJ WN rfl ⟨by simp,fun j ad af=>by rw [si (by omega)]⟩ fun Q bl=>?_;unfold Sp;conv=>whnf
 rw [show IntKind.u64.wrap (d.size:Int)=(d.size:Int) by rw [Zn];omega];refine ⟨by first | rfl | simp only [tr,tY,LW,L4,LX,LZ,LY,L0,L6,L5,JR,L1,L2,L3,tS,uH],_,N_ d.size aZ,?_⟩
 conv=>whnf
 refine ⟨_,_,Ha (agw bD d (Sort.bitsLen d.size) aZ ah MZ),?_⟩;conv=>whnf
 exact bl _ _ _ ⟨.inl rfl,⟨rfl,fun j o aw=>.inr aw⟩,rfl⟩
end Go.Proofs.YtfakoboiahbhaaaGreat.Ab


namespace Go.Proofs.YtfakoboiahbhaaaGreat.Ab
open Go
def abn:c8:={ ops:=[[],[{},{},{},{ takes:=[true] }],[{},{ takes:=[true] }],[{ takes:=[true] },{ takes:=[true],mode:=4 }],[{},{ takes:=[true] },{ takes:=[true] }],[{},{},{ takes:=[true] },{ takes:=[true,true] }],[{ takes:=[true] },{ takes:=[true] },{ takes:=[true] }],[{},{},{ takes:=[true,true] },{ takes:=[true] },{ takes:=[true] }],[{},{},{ mode:=6 },{ takes:=[true] }],[{},{},{ takes:=[true] },{ takes:=[true,true] },{ takes:=[true,true] }],[{ takes:=[true] },{ takes:=[true] },{ takes:=[true] }],[{},{},{ takes:=[true,true] },{ takes:=[true] }],[{ takes:=[true] },{ takes:=[true] },{ takes:=[true,true] },{ takes:=[true],mode:=4 }]],h9:=[(0,(Ex false [0,2,3,2,35]))] }
noncomputable def Sl:eA :=
 Gx [Gl 30 0,Gl 31 5,Gm 32 7,Gf 33 30 31 1,⟨none,[.hI 33,.hI 32],none,none,.st 1⟩] (Gq [Gm 34 5,FX 35 34 1,Gm 5 35])
noncomputable def Sm:eA :=
 Gx [Gl 26 1,Gl 27 7,gO 28 [.sl 26,.sl 27] (.call 6),gO 29 [.hL 28] (.un .not)] (.cond (.sl 29) Sl .skip)
noncomputable def Sn:eA :=
 .block 1 (Gx [Gl 22 0,Gl 23 6,Gf 24 22 23 1,Gj 25 24,Gm 7 25] Sm)
noncomputable def O4:eA :=
 .seq (Gx [Gl 16 6,Gl 17 0,Gi 18 17,FZ 19 16 18 .lss] (.cond (.sl 19) .skip (.exit 0))) (.seq Sn (Gq [Gm 20 6,FX 21 20 1,Gm 6 21]))
noncomputable def So:eA :=
 Gx [Gm 39 0, Gm 40 5, gO 41 [.hI 39, .hI 40] (.AW 1 false true false), gO 4 [.hI 41] (.other (Oper.mk (some 4) (Op.assign (Operand.tmp 41)) 41 "slices.go:254" (Array.mk [Edge.mk 2 Ground.data, Edge.mk 0 Ground.phase, Edge.mk 1 Ground.phase, Edge.mk 2 Ground.phase]) none) 4)] .ret
noncomputable def O5:eA :=
 Gx [Gl 36 0, Gl 37 5, gO 38 [.hI 36, .hI 37] (.AW 1 true false false), ⟨none, [.hI 38], none, none, .other (Oper.mk none (Op.call (Call.mk (Callee.builtin Builtin.clear) (Array.mk [Operand.tmp 38]) (Array.mk [41]))) 0 "slices.go:253" (Array.mk [Edge.mk 2 Ground.data]) none) 0⟩] So
noncomputable def Nl:eA :=
 .seq (Gx [Gl 11 5, FY 12 11 (-1) .eql] (.cond (.sl 12) (Gx [Gm 13 0, gO 4 [.hI 13] (.other (Oper.mk (some 4) (Op.assign (Operand.tmp 13)) 41 "slices.go:244" (Array.mk [Edge.mk 0 Ground.data, Edge.mk 0 Ground.phase]) none) 4)] .ret) .skip)) (.seq (Gx [Gl 14 5, FX 15 14 1, Gm 6 15] (.block 0 (.loop (some (Ex false [0, 2, 3, 2, 35])) O4))) O5)
noncomputable def Nm:eA :=
 Gx [Gl 8 0,Gl 9 1,gO 10 [.iC (.func 126 [] []),.sl 8,.sl 9] (.call 0),Gm 5 10] Nl
noncomputable def Sk:eA :=
 Gx [gO 4 [.iC (.ay [] 0 .full)] (.nil 1)] Nm
theorem WM:ze Go.Proofs.Tryz.prog abn 101=some (Sk,42,[.tmp 4]):=by kernel_rfl
end Go.Proofs.YtfakoboiahbhaaaGreat.Ab


namespace Go.Proofs.YtfakoboiahbhaaaGreat.Ab
open Go
set_option maxRecDepth 20000
set_option maxHeartbeats 4000000
theorem LB {P:Program} {k:FuncId} {args:List I} {H H':List au} {lo:Nat} {v:I} (aC:cq 8 v=true) (h:Sem P (.fn k) args H H.length v H'):oq P 0 lo (.fn k) args H v H:=by
 refine ⟨_,DZ h,?_⟩;have ck:bJ H' H.length H'.length 0 8 v=some v:=oT aC;simp only [eV,DY,r_,ck,sd]
theorem aeK {p:List Int→Bool}:∀ (l:List (List Int)) (i:Nat) (h:i<l.length),idxOf p (l.drop i) i=if p l[i]=true then (i:Int) else idxOf p (l.drop (i+1)) (i+1):=fun l i h=>by
 rw [sT h,idxOf]
theorem TC (d:List (List Int)) {n:Int} {i:Nat} (aN:n=i) (h:i<d.length):(d.map jj)[0+n.toNat*1]?=some (jj d[i]):=by
 subst aN;simp [h]
section
variable {id lo g:Nat} {H:List au} {GY:FuncId} {rI cs:List I} {p:List Int→Bool} {d:List (List Int)}
theorem aeL (aQ:rI.map (il H)=cs) (LK:cs.map I.cr=cs) (Ch:cs.all (cq 8)=true) (aZ:d.length≤1000) (av:∀ r∈d,qg GY (jj r::cs) (B (p r))) (ah:H[id]?=some (.grow (d.map jj) g 1)) :
  Sem Go.Proofs.Tryz.prog (.fn 126) [.ref id 0 d.length none 1,.func GY [] rI] H lo (hR (idxOf p d 0)) H:=by
 refine G4 dJ WT rfl ⟨sb _,fun j _ _=>rfl⟩ fun Q bl=>?_;unfold SO;conv=>whnf
 refine .intro (fun m T H'=>∃ i,i≤d.length∧m=d.length-i∧idxOf p d 0=idxOf p (d.drop i) i∧T=[.ref id 0 d.length none 1,.func GY [] rI,rr,rr,rr,rr,rr,hR d.length,hR i,rr,rr,rr,rr,rr,rr,rr,rr,rr,rr]∧H'=H) d.length ⟨0,by omega,by omega,rfl,rfl,rfl⟩ ?_;rintro m T H' ⟨i,hi,rfl,he,rfl,rfl⟩;conv=>whnf
 refine Hs (fun h=>?_) (fun h=>?_)
 ·have aU:i<d.length:=by omega
  rw [aeK d i aU] at he;conv=>whnf
  refine ⟨by omega,?_⟩;conv=>whnf
  refine DU ah ?_;conv=>whnf
  refine DU (TC d rfl aU) ?_;conv=>whnf
  refine ⟨_,_,call6 (bs:=jj d[i]::cs) ?_ ?_ (av _ (sE aU)) rfl,?_⟩
  ·show (_::rI.map (il H')).map I.cr=_;rw [aQ,se,LK];rfl
  ·show (_::rI.map (il H')).all (cq 8)=true;rw [aQ];exact pY (ra (fun _=>rfl) _ _ _) Ch
  conv=>whnf
  cases aC:p d[i] with
  | true =>
    (conv=>whnf);rw [aC,if_pos rfl] at he;exact bl _ _ _ ⟨.inr rfl,⟨rfl,fun j o aw=>.inr aw⟩,by rw [he];rfl⟩
  | false =>
    (conv=>whnf);rw [aC,if_neg (by simp)] at he;exact ⟨d.length-(i+1),by omega,i+1,by omega,rfl,he,by rw [←q5 i (by omega)] <;> rfl,rfl⟩
 ·obtain rfl:i=d.length:=by omega
  rw [List.drop_length] at he;conv=>whnf
  exact bl _ _ _ ⟨.inr rfl,⟨rfl,fun j o aw=>.inr aw⟩,by rw [he];rfl⟩
end
theorem Vn {P:Program} {C:b6} {lo id gid n:Nat} {o:Oper} {x:Operand} {H:List au} {l:List I} (aq:o.op=.assign x) (bD:lo≤id) (ah:H[id]?=some (.grow l gid 1)) (aN:n≤l.length) (aC:(l.take n).all I.plain=true) :
  a8 P C lo o 4 [.cl id gid n 1] H=some (.ay (l.take n) n (.uniq 1),H.set id .dead):=by
 unfold a8;rw [aq];show eS P lo 4 o.type x H [.cl id gid n 1]=_;unfold eS;simp only [bD,if_true,ah];rw [if_pos ⟨trivial,trivial,by omega,by rw [tD];exact aC⟩,tD]
theorem XR (l:List (List Int)) (n:Nat):((l.map jj).take n).all I.plain=true:=by
 rw [sC];intro u hu;obtain ⟨x,_,rfl⟩:=ss.1 (List.mem_of_mem_take hu);rfl
theorem acH {P:Program} {lo id off len:Nat} {H:List au} {l:List I} {g:Nat} {cap:Option Nat} {e:TypeId} {ts:Array TypeId} (e1:(ts[0]?).bind P.underlying=some (.slice e)) (ck:bS P e=some 1) {z:I} (dG:zeroCells P e=some [z]) (bD:lo≤id)
  (ah:H[id]?=some (.grow l g 1)) (aN:off+len≤l.length):kT P lo ts H [.ref id off len cap 1]=some (.tuple [],H.set id (.grow (setCells off (e0 len [z]) l) g 1)):=by
 unfold kT;simp only [e1,ck,dG,g9,ah,sd,if_pos bD];rw [if_pos ⟨trivial,rfl,by decide⟩,if_pos (by omega)];rfl
theorem VD {off len:Nat} {l:List I} {z:I} (aN:off+len≤l.length):(setCells off (e0 len [z]) l).take off=l.take off:=by
 apply tO;intro j;rw [sV,sV];split
 ·rw [n9 _ _ _ _ (by rw [ih];simp;omega),if_neg (by omega)]
 ·rfl
theorem acI {off len:Nat} {l:List I} {z:I}:(setCells off (e0 len [z]) l).length=l.length:=mM _ _ _
theorem WB {α:Type} (p:α→Bool):∀ (l:List α) (i:Nat),(idxOf p l i=-1∧∀ x∈l,p x=false)∨∃ k,∃ h:k<l.length,idxOf p l i=((i+k:Nat):Int)∧p l[k]=true∧∀ x∈l.take k,p x=false
 | [],i=>.inl ⟨rfl,fun x al=>absurd al (by simp)⟩
 | x::l,i=>by
   rw [idxOf];cases al:p x with
   | true=>rw [if_pos rfl];exact .inr ⟨0,by simp,by simp,al,fun y a0=>absurd a0 (by simp)⟩
   | false =>
     rw [if_neg (by simp)];rcases WB p l (i+1) with ⟨ad,af⟩ | ⟨k,av,ad,af,aG⟩
     ·exact .inl ⟨ad,fun y a0=>by rcases sk.1 a0 with rfl | a0;exact al;exact af y a0⟩
     ·refine .inr ⟨k+1,by simp;omega,by rw [ad];omega,af,fun y a0=>?_⟩;rw [vd] at a0;rcases sk.1 a0 with rfl | a0
      ·exact al
      ·exact aG y a0
theorem VV {p:List Int→Bool} {l:List (List Int)} (h:∀ x∈l,p x=false):l.filter (fun r=>!p r)=l:=List.filter_eq_self.2 fun x al=>by rw [h x al];rfl
section
variable {id lo g:Nat} {H:List au} {GY:FuncId} {rI cs:List I} {p:List Int→Bool} {d:List (List Int)}
theorem acX (bD:lo≤id) (aQ:∀ c:au,rI.map (il (H.set id c))=cs) (LK:cs.map I.cr=cs) (Ch:cs.all (cq 8)=true) (aZ:d.length≤1000) (av:∀ r∈d,qg GY (jj r::cs) (B (p r))) (ah:H[id]?=some (.grow (d.map jj) g 1)) :
  Sem Go.Proofs.Tryz.prog (.fn 101) [.cl id g d.length 1,.func GY [] rI] H lo (.ay ((d.filter fun r=>!p r).map jj) (d.filter fun r=>!p r).length (.uniq 1)) (H.set id .dead):=by
 have aE:=(sa.1 ah).1;refine G4 dJ WM rfl ⟨by simp,fun j ad af=>by rw [si (by omega)]⟩ fun Q bl=>?_;have gs:∀ c:au,(H.set id c)[id]?=some c:=fun c=>by rw [sg aE]
 obtain ⟨JZ,fD⟩:∃ JZ,JZ=H:=⟨H,rfl⟩;rw [show H=JZ.set id (.grow (d.map jj) g 1) by rw [fD];exact (ahU bD ah).symm];rw [←fD] at gs aQ bl;unfold Sk;obtain ⟨m2,rT⟩:∃ c,Nm=c:=⟨_,rfl⟩;rw [rT];conv=>whnf
 subst rT;unfold Nm;obtain ⟨m1,G5⟩:∃ c,Nl=c:=⟨_,rfl⟩;rw [G5];conv=>whnf
 refine ⟨_,_,LB rfl (aeL (aQ _) LK Ch aZ av (gs _)),?_⟩;conv=>whnf
 subst G5;unfold Nl;obtain ⟨fR,rQ⟩:∃ c,O5=c:=⟨_,rfl⟩;obtain ⟨b7,hp⟩:∃ c,O4=c:=⟨_,rfl⟩;rw [rQ,hp];rcases WB p d 0 with ⟨hi,fX⟩ | ⟨k,CC,hi,aes,fX⟩
 ·rw [hi];conv=>whnf
  refine ⟨_,_,fun C=>Vn rfl bD (gs _) (by simp) (XR _ _),?_⟩;rw [sQ];conv=>whnf
  refine bl _ _ _ ⟨.inr rfl,⟨rfl,fun j o aw=>.inr aw⟩,?_⟩;rw [VV fX];show some (I.ay ((d.map jj).take d.length) d.length (.uniq 1))=_;rw [tQ (by simp)]
 ·rw [hi];rw [sP];conv=>whnf
  rw [q5 k (by omega)];refine .intro (fun m T H'=>∃ (i j:Nat) (s:List (List Int)),i<j∧j≤d.length∧m=d.length-j∧s.length=d.length∧s.take i=(d.take j).filter (fun r=>!p r)∧s.drop j=d.drop j∧T=GD 42 [(0,.cl id g d.length 1),(1,.func GY [] rI),(5,hR i),(6,hR j)]∧H'=JZ.set id (.grow (s.map jj) g 1)) (d.length-(k+1)) ⟨k,k+1,d,by omega,by omega,rfl,rfl,?_,rfl,rfl,rfl⟩ ?_
  ·rw [tx CC,t_,VV fX];simp [aes]
  rintro m T H' ⟨i,j,s,gY,aw,rfl,ai,ax,RK,rfl,rfl⟩;subst hp;unfold O4;obtain ⟨bq,d_⟩:∃ c,Sn=c:=⟨_,rfl⟩;rw [d_];conv=>whnf
  refine Hs (fun h=>?_) (fun h=>?_)
  ·(have aU:j<d.length:=by omega);have LN:s[j]'(by omega)=d[j]:=by
    have:=congrArg (fun l=>l[0]?) RK;simpa [sX,aU,ai] using this
   (conv=>whnf);subst d_;unfold Sn;obtain ⟨bk,b8⟩:∃ c,Sm=c:=⟨_,rfl⟩;rw [b8];(conv=>whnf);refine ⟨by omega,?_⟩;(conv=>whnf);refine DU (gs _) ?_;(conv=>whnf);refine DU (TC s rfl (by omega)) ?_;rw [LN];(conv=>whnf);subst b8;unfold Sm;obtain ⟨a',cb⟩:∃ c,Sl=c:=⟨_,rfl⟩;rw [cb];(conv=>whnf);refine ⟨_,_,call6 (bs:=jj d[j]::cs) ?_ ?_ (av _ (sE aU)) rfl,?_⟩
   ·show (_::rI.map (il _)).map I.cr=_;rw [aQ,se,LK];rfl
   ·show (_::rI.map (il _)).all (cq 8)=true;rw [aQ];exact pY (ra (fun _=>rfl) _ _ _) Ch
   (conv=>whnf);have Oy:(d.take (j+1)).filter (fun r=>!p r)=(d.take j).filter (fun r=>!p r)++[d[j]].filter (fun r=>!p r):=by
    rw [tx aU,t_]
   cases aC:p d[j] with
   | true =>
     (conv=>whnf);refine ⟨d.length-(j+1),by omega,i,j+1,s,by omega,by omega,rfl,ai,?_,?_,by rw [←q5 j (by omega)] <;> rfl,rfl⟩
     ·rw [Oy,ax];simp [aC]
     ·have:=congrArg (List.drop 1) RK;simpa [List.drop_drop,te] using this
   | false =>
     (conv=>whnf);subst cb;unfold Sl;refine HU fun mU GZ=>?_;(conv=>whnf);refine ⟨by omega,?_⟩;(conv=>whnf);rw [show Nat.ble lo id=true from ue bD];(conv=>whnf);refine DU (gs _) ?_;(conv=>whnf);refine FI (by simp;omega) ?_;(conv=>whnf);rw [sQ];refine GZ _ _ _ ?_;(conv=>whnf);refine ⟨d.length-(j+1),by omega,i+1,j+1,s.set i d[j],by omega,by omega,rfl,by simpa using ai,?_,?_,by rw [←q5 j (by omega),←q5 i (by omega)] <;> rfl,?_⟩
     ·rw [Oy,←ax,tx (by rw [List.length_set];omega),List.getElem_set_self,List.take_set_of_le (sb _)];simp [aC]
     ·rw [List.drop_set_of_lt (by omega)];have:=congrArg (List.drop 1) RK;simpa [List.drop_drop,te] using this
     ·rw [show 0+(i:Int).toNat*1=i by simp,uN];rfl
  ·(obtain rfl:j=d.length:=by omega);rw [List.take_length] at ax;(have qT:i=(d.filter fun r=>!p r).length:=by rw [←ax,sR];omega);(conv=>whnf);subst rQ;unfold O5;obtain ⟨dY,BZ⟩:∃ c,So=c:=⟨_,rfl⟩;rw [BZ];(conv=>whnf);refine ⟨rfl,⟨by omega,by omega⟩,fun aU=>?_,fun heq=>absurd heq (by omega)⟩;(conv=>whnf);refine ⟨_,_,fun C=>(Nf rfl).trans (acH (e:=38) (z:=.ay [] 0 .full) (by kernel_rfl) (by kernel_rfl) (by kernel_rfl) bD (gs _) (by simp;omega)),?_⟩;rw [sQ];(conv=>whnf);subst BZ;unfold So;(conv=>whnf);refine ⟨⟨by omega,by omega⟩,?_⟩;(conv=>whnf);refine ⟨_,_,fun C=>Vn rfl bD (gs _) ?_ ?_,?_⟩
   ·rw [acI];simp;omega
   ·rw [show 0+(i:Int).toNat*1=(i:Int).toNat by omega,VD (by simp;omega)];exact XR _ _
   rw [sQ];(conv=>whnf);refine bl _ _ _ ⟨.inr rfl,⟨rfl,fun j o aw=>.inr aw⟩,?_⟩;show some (I.ay (List.take (i:Int).toNat _) (i:Int).toNat (.uniq 1))=_;rw [show 0+(i:Int).toNat*1=(i:Int).toNat by omega,VD (by simp;omega),Int.toNat_natCast,←uo,ax,←qT]
end

theorem WE {α:Type} [Inhabited α] (lt:α→α→Bool) (d:Array α) (a b:Nat):(Sort.insertionSort lt d a b).size=d.size:=by
 have ah7:∀ (d:Array α) (i j:Nat),(Sort.swp d i j).size=d.size:=fun d i j=>by simp [Sort.swp]
 have kn:∀ (j:Nat) (d:Array α),(Sort.insInner lt a j d).size=d.size:=fun j=>by
  induction j with
  | zero=>intro d;rfl
  | succ j a_ =>
    intro d;rw [Sort.insInner];split
    ·rw [a_,ah7]
    ·rfl
 show (Sort.insOuter lt a b (a+1) d).size=d.size
 have:∀ (n i:Nat) (d:Array α),b-i=n→(Sort.insOuter lt a b i d).size=d.size:=fun n=>by
  induction n with
  | zero=>intro i d h;rw [Sort.insOuter.eq_1,if_neg (by omega)]
  | succ n a_=>intro i d h;rw [Sort.insOuter.eq_1,if_pos (by omega),a_ _ _ (by omega),kn]
 exact this _ _ d rfl
def GO (l:List Int):List Int:=(Sort.insertionSort Sort.ltInt l.toArray 0 l.length).toList
theorem Po (l:List Int):(GO l).length=l.length:=by
 unfold GO;rw [tE,WE];simp
theorem X9 {H:List au} {id lo n:Nat} (l:List Int) (bD:lo≤id) (ak:l.length≤12) (aN:n=l.length) (ah:H[id]?=some (.cells (l.map hR))) :
  Sem Go.Proofs.Tryz.prog (.fn 73) [.ref id 0 n none 1] H lo (.tuple []) (H.set id (.cells ((GO l).map hR))):=by
 subst aN;have:=ahV bD l.toArray (by simpa using ak) (by simpa [I7] using ah);simpa [I7,HV,GO] using this
def Ic (l:List (List Int)):List (List Int):=(Sort.insertionSort Hx l.toArray 0 l.length).toList
theorem TJ (l:List (List Int)):(Ic l).length=l.length:=by
 unfold Ic;rw [tE,WE];simp
def L_ (l:List Int):Bool:=!l.isEmpty && decide (0≤ix l 0) && decide (ix l 0≤1000)
theorem ahH {l:List Int} (h:L_ l=true):J0 l:=by
 simp only [L_,sx,decide_eq_true_eq] at h;exact ⟨by intro e;subst e;simp at h,h.1.2,h.2⟩
theorem ah4 {H:List au} {id lo n g:Nat} (l:List (List Int)) (bD:lo≤id) (ak:l.length≤12) (aj:l.all L_=true) (aN:n=l.length) (ah:H[id]?=some (.grow (l.map jj) g 1)) :
  Sem Go.Proofs.Tryz.prog (.fn 102) [.ref id 0 n none 1,.func 103 [] []] H lo (.tuple []) (H.set id (.grow ((Ic l).map jj) g 1)):=by
 subst aN
 have:=ah1 bD l.toArray (by simpa using ak) (g:=g) (by simpa [I8] using ah) (fun x al=>by
  have al:x<l.length:=by simpa using al
  have:=sC.1 aj l[x] (sE al);have e:l.toArray[x]! = l[x]:=by simp [al]
  rw [e];exact ahH this)
 simpa [I8,HV,Ic] using this
def KE (f:List Int→Option Bool):List (List Int)→Option (List (List Int))
 | []=>some []
 | r::l=>(f r).bind fun b=>(KE f l).bind fun l'=>some (if b=true then l' else r::l')
theorem VI {f:List Int→Option Bool}:∀ {l R:List (List Int)},KE f l=some R→∃ p:List Int→Bool,(∀ r∈l,f r=some (p r))∧R=l.filter fun r=>!p r
 | l,R,h=>by
   refine ⟨fun r=>(f r).getD false,?_⟩
   induction l generalizing R with
   | nil=>exact ⟨fun r aj=>absurd aj (by simp),(Option.some.inj h).symm⟩
   | cons r l a_ =>
     obtain ⟨b,ag,h⟩:=p' h;obtain ⟨l',dB,h⟩:=p' h;obtain rfl:=Option.some.inj h;obtain ⟨i1,i2⟩:=a_ _ dB;refine ⟨fun x al=>?_,?_⟩
     ·rcases sk.1 al with rfl | al
      ·show f x=some ((f x).getD false);rw [ag];rfl
      ·exact i1 x al
     ·(have e:(f r).getD false=b:=by rw [ag];rfl);rw [List.filter_cons];show _=if (!(f r).getD false)=true then _ else _;rw [e,←i2];cases b <;> rfl
section
variable {id lo g n:Nat} {H:List au} {GY:FuncId} {rI cs:List I} {f:List Int→Option Bool} {l R:List (List Int)}
theorem acW (h:KE f l=some R) (bD:lo≤id) (aQ:∀ c:au,rI.map (il (H.set id c))=cs) (LK:cs.map I.cr=cs) (Ch:cs.all (cq 8)=true) (aZ:l.length≤1000) (aN:n=l.length) (av:∀ r b,f r=some b→qg GY (jj r::cs) (B b)) (ah:H[id]?=some (.grow (l.map jj) g 1)) :
  Sem Go.Proofs.Tryz.prog (.fn 101) [.cl id g n 1,.func GY [] rI] H lo (.ay (R.map jj) R.length (.uniq 1)) (H.set id .dead):=by
 subst aN;obtain ⟨p,aC,rfl⟩:=VI h;exact acX bD aQ LK Ch aZ (fun r aj=>av r _ (aC r aj)) ah
end
section
variable {H:List au} {lo:Nat}
theorem aeO {F:I}:Sem Go.Proofs.Tryz.prog (.fn 138) [.ay [] 0 .full,hR 0,hR 0,F] H lo (.tuple []) H:=by
 refine G4 dJ WV rfl (ba.refl _ _) fun Q bl=>?_;unfold SV;conv=>whnf
 refine .intro (fun m T H'=>T=GD 53 [(0,.ay [] 0 .full),(1,hR 0),(2,hR 0),(3,F),(8,hR 1)]∧H=H') 0 ⟨rfl,rfl⟩ ?_;rintro m T H' ⟨rfl,rfl⟩;conv=>whnf
 exact bl _ _ _ ⟨.inl rfl,⟨by simp,fun j o aw=>.inr aw⟩,rfl⟩
theorem agt {IZ:Int} {k:FuncId} {cap:List I}:Sem Go.Proofs.Tryz.prog (.fn 127) [.ay [] 0 .full,hR 0,hR 0,hR IZ,.func k [] cap] H lo (.tuple []) H:=by
 refine G4 dJ WU rfl (ba.refl _ _) fun Q bl=>?_;unfold SP;obtain ⟨QQ,IV⟩:∃ c,Nw=c:=⟨_,rfl⟩;rw [IV];conv=>whnf
 refine .intro (fun m T H'=>T=GD 148 [(0,.ay [] 0 .full),(1,hR 0),(2,hR 0),(3,hR IZ),(4,.func k [] cap),(10,B true),(11,B true)]∧H'=H) 0 ⟨rfl,rfl⟩ ?_;rintro m T H' ⟨rfl,rfl⟩;subst IV;unfold Nw;obtain ⟨a',cb⟩:∃ c,Nv=c:=⟨_,rfl⟩;obtain ⟨QP,KH⟩:∃ c,SQ=c:=⟨_,rfl⟩;rw [cb,KH];conv=>whnf
 subst cb;unfold Nv;conv=>whnf
 refine ⟨_,_,Ha aeO,?_⟩;conv=>whnf
 exact bl _ _ _ ⟨.inr rfl,⟨rfl,fun j o aw=>.inr aw⟩,rfl⟩
theorem ah0 {k:FuncId} {cap:List I}:Sem Go.Proofs.Tryz.prog (.fn 102) [.ay [] 0 .full,.func k [] cap] H lo (.tuple []) H:=by
 refine G4 dJ WN rfl (ba.refl _ _) fun Q bl=>?_;unfold Sp;conv=>whnf
 refine ⟨by first | rfl | simp only [tr,tY,LW,L4,LX,LZ,LY,L0,L6,L5,JR,L1,L2,L3,tS,uH],_,N_ 0 (by decide),?_⟩
 conv=>whnf
 refine ⟨_,_,Ha agt,?_⟩;conv=>whnf
 exact bl _ _ _ ⟨.inl rfl,⟨by simp,fun j o aw=>.inr aw⟩,rfl⟩
theorem aeJ {k:FuncId} {cap:List I}:Sem Go.Proofs.Tryz.prog (.fn 126) [.ay [] 0 .full,.func k [] cap] H lo (hR (-1)) H:=by
 refine G4 dJ WT rfl (ba.refl _ _) fun Q bl=>?_;unfold SO;conv=>whnf
 refine .intro (fun m T H'=>T=[.ay [] 0 .full,.func k [] cap,rr,rr,rr,rr,rr,hR 0,hR 0,rr,rr,rr,rr,rr,rr,rr,rr,rr,rr]∧H'=H) 0 ⟨rfl,rfl⟩ ?_;rintro m T H' ⟨rfl,rfl⟩;conv=>whnf
 exact bl _ _ _ ⟨.inr rfl,⟨rfl,fun j o aw=>.inr aw⟩,rfl⟩
theorem acU {k:FuncId} {cap:List I}:Sem Go.Proofs.Tryz.prog (.fn 101) [.ay [] 0 .full,.func k [] cap] H lo (.ay [] 0 .full) H:=by
 refine G4 dJ WM rfl (ba.refl _ _) fun Q bl=>?_;unfold Sk;obtain ⟨m2,rT⟩:∃ c,Nm=c:=⟨_,rfl⟩;rw [rT];conv=>whnf
 subst rT;unfold Nm;obtain ⟨m1,G5⟩:∃ c,Nl=c:=⟨_,rfl⟩;rw [G5];conv=>whnf
 refine ⟨_,_,LB rfl aeJ,?_⟩;conv=>whnf
 subst G5;unfold Nl;obtain ⟨fR,rQ⟩:∃ c,O5=c:=⟨_,rfl⟩;obtain ⟨b7,hp⟩:∃ c,O4=c:=⟨_,rfl⟩;rw [rQ,hp];conv=>whnf
 refine ⟨_,_,fun C=>rfl,?_⟩;conv=>whnf
 exact bl _ _ _ ⟨.inr rfl,⟨rfl,fun j o aw=>.inr aw⟩,rfl⟩
end
end Go.Proofs.YtfakoboiahbhaaaGreat.Ab
