
import Derived.Test.YtfakoboiahbhaaaGreatJb1
import Derived.Test.YtfakoboiahbhaaaGreatJb4
import Derived.Test.YtfakoboiahbhaaaGreatProg
import Derived.KernelRfl
import Derived.IntWalk
import Derived.ProofKit
import Derived.Deep.Slices
import Derived.ChangeStays
import Derived.Below
import Derived.WalkKit
import Derived.Sort.AssemblyPlain
set_option linter.unusedSimpArgs false
set_option linter.unusedVariables false
set_option linter.unusedSectionVars false

open Array renaming length_toList→tQ,size_setIfInBounds→uP
open Bool renaming and_eq_true→sO,and_self→uX,and_true→uj,false_eq_true→ua
open Classical renaming choose_spec→vX
open List renaming all_cons→tJ,all_eq_true→sR,all_nil→ux,append_assoc→sH,append_nil→sW,drop_eq_getElem_cons→tn,drop_zero→th,ext_getElem?→ui,filter_append→uy,flatMap_append→vn,flatMap_cons→uo,getElem?_append→sy,getElem?_append_left→sQ,getElem?_append_right→s_,getElem?_drop→tr,getElem?_eq_getElem→sK,getElem?_eq_none→ub,getElem?_eq_some_iff→sv,getElem?_map→sN,getElem?_set_ne→sJ,getElem?_set_self→sI,getElem?_take→tp,getElem_mem→sU,length_append→sC,length_drop→uh,length_pos_iff→tS,length_take→tf,map_append→tj,map_congr_left→uN,map_cons→sG,map_id→vB,map_map→uE,map_set→vi,map_take→ur,mem_append_left→vE,mem_append_right→v7,mem_cons→sL,mem_cons_of_mem→uw,mem_cons_self→uY,mem_flatMap→vC,mem_iff_getElem?→tE,mem_map→sM,mem_range→sX,range_succ→uZ,set_getElem_self→u5,set_set→te,take_of_length_le→uB,take_succ_cons→vo,take_succ_eq_append_getElem→tT,take_zero→tD
open Nat renaming add_comm→tC,add_mul→tH,ble_eq_true_of_le→uF,eq_of_beq_eq_true→tw,le_refl→sB,le_trans→tb,lt_or_ge→tq,min_eq_left→tI,mul_one→ud,one_mul→v3,zero_add→tg,zero_le→sP,zero_mul→vN
open Option renaming bind_some→sx,map_eq_some_iff→su,map_some→sD
namespace Go.Proofs.YtfakoboiahbhaaaGreat.Ab
open Go
abbrev pX:b3:={ takes:=[true] }
abbrev p3:b3:={ takes:=[true,true] }
def p6 (l:List Nat):List b3:=l.map fun n=>match n with
 | 0=>{}
 | 1=>pX
 | _=>p3
def acZ:dd:={ ops:=[[{ mode:=3 }]] }
def ac3:dd:={ ops:=[[],[],[],[],[],[{},{ mode:=3 },{},{ mode:=3 },p3,pX,pX,pX,p3,{ takes:=[false,true] },pX,pX,pX,p3,{ takes:=[false,true] },pX,pX,pX,p3,{ takes:=[false,true] },pX,{},{},{ mode:=3 },{},{},{ mode:=3 },p3,{ takes:=[false,true] },pX,{ mode:=3 },{ takes:=[false,true] },pX]] }
def adl:dd:={ ops:=[[],[],[],[],[],[],[{},{},pX,{ mode:=3 },{ mode:=3 },pX,{},{},pX,pX],[],[],[],[],[],[],[{},{},{},p3,pX,{ mode:=3 },{ mode:=3 },pX,{},{},pX,pX]] }
def adm:dd:={ ops:=[[],[],[],[],[],[],[],[],[],[],[],[],[],[],[],[],[],[],[],[pX,pX,pX,{ mode:=3 },{ mode:=3 },pX,{},{},pX,pX]] }
def PB:dd:={ ops:=[[pX],[{},{ mode:=3 },pX,pX,{},pX,pX,pX,{ takes:=[true,false,true] },pX,{},pX,pX,{ takes:=[true,false,true] }],[{ mode:=3 },pX],[{},{ mode:=3 },pX,{},pX,pX,pX],[{},{ mode:=3 },pX,{},pX,pX,pX],[{},{ mode:=3 },pX,{},pX,pX,pX],[pX,pX,pX,pX,pX,{ takes:=[true,false,true] },pX,{},pX,pX,{},pX,p3,{ takes:=[true,false,true] },pX,pX,pX,pX,{},pX,p3,p3,{ takes:=[true,false,true] }],[],[{},pX,{ mode:=3 },pX],(p6 [0,1,1,0,1,2,1]),[{ mode:=3 },pX],[{},pX,{},{},pX,p3,{ takes:=[true,true],mode:=2 },{},{ takes:=[false,true],mode:=2 }],[],[],(p6 [0,0,1,2]),(p6 [1,1,1]),[{},{},{},p3,pX,{ mode:=3 },pX,{},{},{},pX,pX,pX],[{},{},{},pX,{},pX,p3,p3,pX,{ mode:=3 },pX,{},{},{},pX,pX,pX],[pX,pX,pX,pX,pX,{ takes:=[true,false,true] }],[],(p6 [1,0,0,2,1,2,0,1,1,1,1,2,1]),[{},{ takes:=[true],mode:=1 },pX,pX,p3,pX,p3,{},p3],[{},{ mode:=3 },pX,{},pX,pX,pX],[{},{ mode:=3 },pX,{},pX,pX,pX],[pX,pX,pX,p3,pX,pX,pX,{ mode:=3 },pX,p3,pX,pX,pX,p3,pX,pX,pX,p3,pX,pX,pX,p3,pX,{ mode:=3 },p3,pX]],ia:=[(0,(qb false [2,1,4,1,3,4,172]))] }
def acw:dd:={ ops:=[[],[],[],[pX,pX,{},pX,p3,pX,pX,{},pX,p3,p3,{},{ takes:=[false,true] }],[{},pX,{},{},pX,p3,{},pX,p3,p3,{},{ takes:=[false,true] }]] }
def acz:dd:={ ops:=[[],[],[],[],[],[],[],[],[],[],[],[],[],[],[],[],[],[],[],[],[],[],[],[],[{},pX,{ mode:=3 },{ mode:=3 },pX,{},{},{},pX,pX,pX]] }
def acD:dd:={ two:=[(12,8)],ops:=[[{ takes:=[true],mode:=1 }],[{},{ mode:=3 },pX,pX,{},pX,pX,pX,{ takes:=[true,false,true] }],[{ mode:=3 },pX],[{},{ mode:=3 },pX,{},pX,pX,pX],[{},{ mode:=3 },pX,{},pX,pX,pX],(p6 [1,1,0,1,1,2,1]),[],[],(p6 [0,0,1,1,2]),(p6 [1,1,1]),(p6 [0,0,2]),(p6 [1,0,1,2,1]),[{},pX,{ mode:=3 },{},{ takes:=[true],mode:=3 },{},p3,{ takes:=[true],mode:=3 },{},{},{ takes:=[false,true] },{ takes:=[false,true] }],[{},{},pX,{},pX,{ mode:=3 },pX,{},pX,pX,pX],[pX,{ mode:=3 },pX,{},pX,pX,pX],[{},{ mode:=3 },pX,{},pX,pX,pX],[pX,pX,pX,pX,pX,pX,{},pX,pX,p3,{ takes:=[true,false,true] },pX,pX,pX,{ takes:=[true,false,true] },pX,pX,pX,{ takes:=[true,false,true] }],[],(p6 [0,1,0,1,2]),[pX,pX,pX,pX,pX,{ mode:=3 },pX,p3,pX,{ mode:=3 },p3,pX],[pX,pX,{ mode:=3 },{},pX,p3,pX,{},pX,pX,{},pX,p3,{ takes:=[true,false,true] }],[],[pX,pX],[pX,pX,{ mode:=3 },pX,{},{},pX,pX,pX,pX],[pX,pX,pX,pX,pX,pX,pX,p3,p3,pX,{ mode:=3 },p3,pX],[pX,{ mode:=3 },pX],[pX,pX,pX,pX,p3,pX,{},{},pX,p3,pX,pX,{ takes:=[true,false,true] },pX,pX,pX,pX,p3,pX,pX,{ takes:=[true,false,true] },pX,{ mode:=3 },p3,pX]],ia:=[(0,(qb false [2,1,2,2,1,4,175]))] }
def acK:dd:={ ops:=[[],[],[],(p6 [1,1,0,1,2,1,1,0,1,2,1,1]),[],[],[],[],[],[{},pX,p3,pX,{},pX,pX,pX,p3,{ takes:=[false,false,true] },pX,{},pX,{},pX,p3,{ takes:=[false,false,true] },pX,{},pX,{},{},p3,pX,{},{},p3,pX,p3,p3,{ takes:=[false,false,true] }],[],[],[],[],[],[],[],[],[],[],[],[{},{},{},p3,pX,{ mode:=3 },pX]] }
def acO:dd:={ ops:=[[],[],[],[{},pX,{},pX,p3,{},{},pX,p3,{ takes:=[true,true],mode:=2 },{},{ takes:=[false,true],mode:=2 }],[],[],[],[{},{ takes:=[true],mode:=1 },{},pX,{},p3,pX,pX,{},pX,p3,{},pX,{},p3,pX,pX,{},pX,p3,p3,pX,p3,{},p3]] }
def acW:dd:={ ops:=[[],[{ mode:=3 },{ mode:=3 },{ mode:=3 },{},{},{},{ takes:=[false,true] },{ takes:=[false,true] },{ takes:=[false,true] }],[{},{},{ mode:=3 },{ mode:=3 },pX,{},{},{},pX,pX,pX],[{},{},{ mode:=3 },{ mode:=3 },pX],[{},{ mode:=3 },pX,{},pX,pX,pX],[{},{ mode:=3 },pX,{},pX,pX,pX],[{},{ mode:=3 },pX,{},pX,pX,pX],[{},{ mode:=3 },pX,{},pX,pX,pX],[{},{ mode:=3 },pX,{},pX,pX,pX],[{},{ mode:=3 },pX,{},pX,pX,pX],[{},{ mode:=3 },pX,{},pX,pX,pX],[{},{ mode:=3 },pX,{},pX,pX,pX],[pX,{ mode:=3 },pX,{},pX,pX,pX],[pX,{ mode:=3 },pX,{},pX,pX,pX],[pX,pX,pX,pX,pX,p3,pX,pX,pX,p3,pX,pX,pX,p3,pX,pX,pX,p3,pX,pX,{},{ mode:=3 },{ mode:=3 },p3,pX,pX,pX,p3,pX,pX,{},{ mode:=3 },pX,{ mode:=3 },{ mode:=3 },p3,pX,pX,pX,p3,pX,pX,pX,p3,pX,pX,pX,p3,pX,pX,pX,p3,pX,pX,pX,p3,pX,pX,pX,p3,pX,pX,pX,p3,pX,pX,pX,p3,pX,pX,pX,p3,pX,pX,{},{ mode:=3 },{ mode:=3 },p3,pX,pX,pX,p3,pX,pX,{},{ mode:=3 },{ mode:=3 },p3,pX,pX,pX,p3,pX,pX,pX,pX,p3,pX,pX,pX,p3,pX,pX,{},{ mode:=3 },{ mode:=3 },p3,pX,pX,{ mode:=3 },pX,p3,pX,{ mode:=3 },p3,pX]] }
def Wm:dd:={ ops:=[[pX],(p6 [1,1,1,1,1])] }
def acY:dd:={ ops:=[[],[{ mode:=3 },{ mode:=3 },{ mode:=3 },{},{},{},{ takes:=[false,true] },{ takes:=[false,true] },{ takes:=[false,true] }],[{},{},{ mode:=3 },{ mode:=3 },pX,{},{},{},pX,pX,pX],[{},{},{ mode:=3 },{ mode:=3 },pX,{},{},{},pX,pX,pX],[{},{},{ mode:=3 },{ mode:=3 },pX,{},{},{},pX,pX,pX],[{},{},{ mode:=3 },{ mode:=3 },pX,{},{},{},pX,pX,pX],[{},{ mode:=3 },pX,{},{},pX,pX,pX,pX],[{},{},{ mode:=3 },{},{ mode:=3 },p3,{ mode:=3 },{ mode:=3 },pX,{},{},pX,pX],[{},{},{ mode:=3 },pX,{ mode:=3 },{ mode:=3 },pX,{},{},pX,pX],[{},{},{ mode:=3 },{},{ mode:=3 },p3,{ mode:=3 },{ mode:=3 },pX,{},{},pX,pX],[{},{},{ mode:=3 },{ mode:=3 },{},{},{ mode:=3 },{ mode:=3 },pX,pX],[{},{ mode:=3 },pX,{},pX,pX,pX],[{},{ mode:=3 },pX,{},pX,pX,pX],[{},{ mode:=3 },pX,{},pX,pX,pX],[{},{ mode:=3 },pX,{},pX,pX,pX],[{},{ mode:=3 },pX,{},pX,pX,pX],[{},{ mode:=3 },pX,{},pX,pX,pX],[{},{ mode:=3 },pX,{},pX,pX,pX],[{},{ mode:=3 },pX,{},pX,pX,pX],[{},{ mode:=3 },pX,{},pX,pX,pX],[{},{ mode:=3 },pX,{},pX,pX,pX],[{},{ mode:=3 },pX,{},pX,pX,pX],[pX,{ mode:=3 },pX,{},pX,pX,pX],[{},{ mode:=3 },pX,{},pX,pX,pX],[pX,pX,pX,pX,pX,{ takes:=[true,false,true] },pX,pX,pX,{ takes:=[true,false,true] },pX,pX,pX,{ takes:=[true,false,true] },pX,pX,pX,{ takes:=[true,false,true] },pX,pX,pX,{ takes:=[true,false,true] },pX,pX,pX,{ takes:=[true,false,true] },pX,pX,pX,{ takes:=[true,false,true] },pX,pX,pX,{ takes:=[true,false,true] },pX,pX,pX,{ takes:=[true,false,true] },pX,pX,pX,{ takes:=[true,false,true] },pX,pX,pX,{ takes:=[true,false,true] },pX,pX,pX,{ takes:=[true,false,true] },pX,pX,pX,{ takes:=[true,false,true] },pX,pX,pX,{ takes:=[true,false,true] },pX,pX,pX,{ takes:=[true,false,true] },pX,pX,pX,{ takes:=[true,false,true] },pX,pX,pX,{ takes:=[true,false,true] },pX,pX,pX,{ takes:=[true,false,true] },pX,pX,pX,{ takes:=[true,false,true] },pX,pX,pX,{ takes:=[true,false,true] },pX,pX,pX,{ takes:=[true,false,true] },pX,pX,pX,{ takes:=[true,false,true] }],[],[pX,pX,pX,pX,pX,{ takes:=[true,false,true] },pX,pX,pX,{ takes:=[true,false,true] },pX,pX,{},{ mode:=3 },{ mode:=3 },pX,{ takes:=[true,false,true] },pX,pX,{},{ mode:=3 },{},{ mode:=3 },{},{ mode:=3 },{ takes:=[true,true,true] },{ mode:=3 },{ mode:=3 },pX,{ takes:=[true,false,true] },pX,pX,pX,{ takes:=[true,false,true] },pX,pX,{},{ mode:=3 },{ mode:=3 },pX,{ takes:=[true,false,true] },pX,pX,pX,{ takes:=[true,false,true] },pX,pX,{},{ mode:=3 },{ mode:=3 },pX,{ takes:=[true,false,true] },pX,pX,{},{ mode:=3 },{ mode:=3 },pX,{ takes:=[true,false,true] }],[],[pX,pX,{ mode:=3 },pX,{},pX,pX,pX],[pX,pX,pX,pX,pX,p3,pX,pX,pX,{ mode:=3 },pX,p3,pX]] }
def Od:dd:={ ops:=[[pX],[{},{ mode:=3 },pX,{},pX,pX,pX],[pX,pX],(p6 [0,1,1]),(p6 [1,0,0,1]),(p6 [0,1,1,1]),[],[{},pX,{ mode:=6 },pX],[],[],[{},pX],[],[],[{},pX,{},{ takes:=[false,true] }],[{},pX,{ takes:=[false,true] },pX,pX],[],[pX,pX,{ takes:=[false,true] },pX],[pX,pX],[{},{},pX,pX,{ mode:=3 },pX,{},pX,pX,pX],[{},pX],[pX],[],[{},pX,{},{ takes:=[false,true] }],[{},pX,{ mode:=3 },pX,{},pX,pX,pX],(p6 [1,1,2]),[],[pX,pX],[pX,pX],(p6 [1,1,1,1])],ia:=[(1,(qb false [1,1,5,1,2,1,28,3,40])),(3,(qb false [7,1,5,1,1,1,47,3,16]))] }
def Oe:dd:={ ops:=[[pX],[{},{ mode:=3 },pX],[pX,{ mode:=3 },{},{},pX],(p6 [0,1,1]),[{},pX],[],[],(p6 [0,0,2]),(p6 [1,1,1]),[{},{},p3,pX,pX,pX,pX,{},{},p3,pX,pX,{},pX,pX,p3,{ takes:=[false,false,true] },pX,{},{},p3,pX,pX,pX,{ takes:=[false,false,true] },pX,{},{},p3,pX,pX,pX,{ takes:=[false,false,true] }],[],[],(p6 [0,0,2]),(p6 [1,1,1]),[{},{},p3,{},{},p3,pX,pX,{ mode:=3 }],[],[],(p6 [0,0,2]),(p6 [1,1,1]),[{},{},{},pX,p3,pX,{ mode:=3 },{},{},{},p3,pX,{ mode:=3 },p3],[],[{},{},pX,pX,{ mode:=3 },{},{},pX,pX,p3,pX,{ mode:=3 },pX,pX]],ia:=[(0,(qb false [1,2,4,2,94])),(2,(qb false [1,2,4,1,1,1,93])),(4,(qb false [1,2,4,1,2,1,92]))] }
def Wn:dd:={ ops:=[[pX],[{},pX],[{},pX,pX,{ mode:=3 },pX,pX,{},pX,pX,pX,{ takes:=[true,false,true] },pX],[],[pX,pX,pX,{ mode:=6 },pX],[],[]] }
def R3:dd:={ ops:=[[pX],[{},pX,pX,pX,{},pX,pX,{ takes:=[true,false,true] },pX,{},pX,pX,pX,{ takes:=[true,false,true] }],[],[],(p6 [0,0,1,1,2]),(p6 [1,1,1]),[{},pX,{},p3,pX,{},{ takes:=[false,true] }],[{},pX,pX,pX,{},pX,{},pX,p3,{ takes:=[true,false,true] },pX,{},pX,pX,{ takes:=[true,false,true] },pX,pX,pX,{},pX,p3,{ takes:=[true,false,true] }],[],[]],ia:=[(0,(qb false [1,1,1,1,49]))] }
def Wo:dd:={ ops:=[[pX],[{},{},{ mode:=3 },pX,{},{},pX,pX,pX,pX],(p6 [0,1,1]),[pX,pX],(p6 [1,1,1,1,1,2,1]),[],(p6 [1,1,2,1]),[],[]] }
def ac0:dd:={ ops:=[[pX],[{},{},{ mode:=3 },pX,{},{},pX,pX,pX,pX],[{},pX],[pX,pX],(p6 [1,1,1,1,1,2]),[],(p6 [1,1,2]),[],[]] }
def R4:dd:={ ops:=[[],(p6 [0,1,1]),[],(p6 [0,0,1,2]),(p6 [1,1,1]),(p6 [1,0,0,2,1,1,2,1]),(p6 [1,1,1])],ia:=[(0,(qb false [0,1,2,2,17]))] }
def Wp:dd:={ ops:=[[pX],[{},{ mode:=3 },pX],[{},pX],(p6 [1,0,1]),[],[],[],(p6 [0,1,1]),[{},{},{ mode:=3 },pX,{},{},pX,pX,pX,pX],[{},pX],(p6 [1,0,1]),[pX],[],[{},pX,{},{ takes:=[false,true] }],[{},{},pX,{},pX,{ takes:=[true,true,true] },pX,pX,pX,p3,pX],[pX,pX],[pX,pX],[{ takes:=[true],mode:=1 },{ takes:=[false,true],mode:=1 }],[{},{},{ takes:=[false,true],mode:=1 },pX,{},pX,p3,pX],[],(p6 [1,1,1,1,1,2,1]),[],(p6 [1,1,1])],ia:=[(0,(qb false [1,2,4,1,12,3,50])),(2,(qb false [1,2,4,1,12,3,13,3,34]))] }
def Pz:dd:={ ops:=[[pX],[{},{ mode:=3 },pX],[pX,{ mode:=3 },{},pX],[],[],(p6 [0,0,1,2]),(p6 [1,1,1]),[{},{},{},p3,pX,{ mode:=3 },pX,{},{},{},pX,pX,pX],[{},pX],(p6 [1,0,1]),(p6 [1,0,0,2,1,2,1]),[],(p6 [0,0,1,2]),(p6 [1,1,1]),[{},{},p3,{},{},p3,pX,pX,{ mode:=3 }],[],(p6 [1,1,1,1,1,2]),[],(p6 [1,1,1])],ia:=[(0,(qb false [1,2,3,2,57])),(2,(qb false [1,2,3,1,4,1,53]))] }
def ac1:dd:={ ops:=[[pX],[pX,{ mode:=3 },pX,{},pX,pX,pX],[{},pX],(p6 [1,0,1]),[{},pX,{ mode:=3 },{ mode:=3 },pX],[{},pX,{ takes:=[false,true] },pX],(p6 [0,1,2]),[pX,pX]] }
def ac2:dd:={ ops:=[[pX],[pX,{ mode:=3 },pX,{},pX,pX,pX],[{},pX],(p6 [1,0,1]),[{},pX,{ mode:=3 },{ mode:=3 },pX]] }
def ac4:dd:={ ops:=[[pX],[{},{ mode:=3 },pX,{},pX,pX,pX],[{},pX],(p6 [1,0,1]),[],[pX,pX],[],[{},{},pX,{},pX,{ takes:=[false,true] }],[{},{},pX,{},{ mode:=3 },{},{ takes:=[false,true] }],(p6 [1,1,2,1,1]),(p6 [1,1,1,2,1]),[pX,pX],[pX,pX]],ia:=[(0,(qb false [4,1,1,1,12,3,20]))] }
def ac5:dd:={ ops:=[[],(p6 [0,1,0,1,2]),[],[],(p6 [0,0,1,2]),(p6 [1,1,1]),(p6 [0,0,2,1,0,0,2,1,2]),[],[]],ia:=[(0,(qb false [0,2,3,1,20]))] }
def ac6:dd:={ ops:=[[],(p6 [0,1,0,1,2]),[],[],(p6 [0,0,1,2]),(p6 [1,1,1]),[{},{},p3,pX,{},{},p3,pX,{ mode:=3 },pX],[],[]],ia:=[(0,(qb false [0,2,3,1,21]))] }
def Wq:dd:={ ops:=[[pX],[pX,{ mode:=3 },pX,{},pX,pX,pX],[{},pX],(p6 [1,0,1]),[pX,{ mode:=3 },pX,pX]] }
def Wr:dd:={ ops:=[[pX],[{},{ mode:=3 },pX,{},pX,pX,pX],(p6 [0,1,1]),(p6 [1,0,1]),(p6 [1,1,1,1,1]),[],[{},{ mode:=3 },pX,pX,pX],[],[pX,{ mode:=3 },pX]] }
def ac7:dd:={ ops:=[[],[],[],[],[],[],[],[],[],[],[],[],[],[],[],[],[],[],[],[{},pX,pX,pX,{},pX,pX,{},{},{},{ mode:=3 },p3,{ takes:=[false,false,true] },{ takes:=[false,true] },pX,{},{},{},pX,{ mode:=3 },{},{},{ mode:=3 },{ mode:=3 },{ takes:=[false,true] }],[],[],[],[pX,{},pX,pX,pX,p3,pX,{},pX,pX,pX,{ mode:=3 },{},{},pX,pX,{ mode:=3 },pX,pX,pX]] }
def Ws:dd:={ ops:=[[pX],[{},{ mode:=3 },pX,{},pX,pX,pX],[pX,pX],[],[pX,{ mode:=3 },{},pX,pX,pX]] }
def Wt:dd:={ ops:=[[pX],[pX,{ mode:=3 },pX,{},pX,pX,pX],[{},pX],(p6 [1,0,1]),[pX,{ mode:=3 },pX]] }
def Wu:dd:={ ops:=[[pX],[{},{ mode:=3 },pX,{},pX,pX,pX],[{},pX],(p6 [1,0,1]),[pX,{},{ mode:=3 },pX],[],[pX,pX]] }
def ac8:dd:={ ops:=[[],(p6 [0,1,0,1,2]),[],[],(p6 [0,0,1,2]),(p6 [1,1,1]),(p6 [0,0,2,1,0,0,2,1,2]),[],[]],ia:=[(0,(qb false [0,2,3,1,20]))] }
def ac9:dd:={ ops:=[[pX,pX],[{},{ mode:=3 },pX,{},pX,{},{ takes:=[false,true] },pX],(p6 [0,1,1]),(p6 [1,0,1]),[pX,pX,pX,{},{},p3,{ mode:=3 },pX,pX,{},{},p3,{ takes:=[true,false,true] },pX],[],[{},{},{ mode:=3 },{},{ takes:=[false,true] }],[{},{ takes:=[false,true] },pX,pX],[],[{ mode:=1 }],(p6 [0,0,2]),[{},{},{ mode:=3 }],[{},{ takes:=[false,true] }],[pX,{},{ mode:=3 },pX,{},pX,pX,pX],[{},{ takes:=[false,true] },pX,{},{ takes:=[false,true] },pX,pX,p3],[{ mode:=1 },pX,pX,p3,pX,p3,p3],[pX,pX]],ia:=[(1,(qb false [2,1,1,1,3,1,1,2,60]))] }
def Wv:dd:={ ops:=[[pX],[{},{ mode:=3 },pX,pX,pX,{ mode:=3 },pX,p3,pX]] }
def Ww:dd:={ ops:=[[pX],[{},{ mode:=3 },pX,{},pX,pX,pX],[{},{ mode:=3 },pX,{},pX,pX,pX],[pX,pX,pX,pX,pX,{ takes:=[true,false,true] },pX,{},{ mode:=3 },{ takes:=[true,false,true] }],[pX,pX],[{},{},{ mode:=3 },pX,{},pX,pX,pX],[pX,pX,{ mode:=3 },pX,{},pX,pX,pX],(p6 [0,1,1,1,1,1,2,1,1,0,2,2,1,1,1,2,2,1,1])] }
def HT:dd:={ ops:=[[pX],[],[],[],(p6 [0,1,0,1,1,2]),[],[],[],(p6 [0,0,1,1,2]),(p6 [1,1,1]),[],[{},pX],(p6 [1,1,1]),[{},{},p3,{},{ takes:=[false,true] }],[{},{},{ mode:=3 },pX,pX,{},pX,pX,pX,{},{},{},pX,pX,p3,pX,{ mode:=3 },{},{},{ mode:=3 },p3,{ takes:=[false,false,true] },{ takes:=[false,true] }],(p6 [1,1,1,2,1]),(p6 [0,1,1]),[],(p6 [0,1,1]),(p6 [0,0,0,1,2,2,1,1,0,1,2,1]),(p6 [1,1,1]),(p6 [1,0,0,2,1,1,2,1,0,0,2,1,1,2,1,1]),(p6 [1,1,1,2,1]),[pX,pX]],ia:=[(0,(qb false [1,2,2,3,91])),(2,(qb false [1,2,2,4,90])),(4,(qb false [1,2,2,6,88])),(6,(qb false [1,2,2,7,87]))] }
def ac_:dd:={ ops:=[[],[],[],[],[],[{},{ takes:=[true],mode:=1 },{},pX,{},{},p3,pX,p3,pX,pX,p3,{},p3]] }
def ada:dd:={ ops:=[[],[pX,pX]] }
def adb:dd:={ ops:=[[],[],[],[],[],[pX,{},{},p3,pX,pX,{},{},p3,pX,pX,{ takes:=[false,true] },p3,pX,p3,pX]] }
def ade:dd:={ ops:=[[],[],[],[],[],[],[],[],[],[],[],[],(p6 [0,1,0,2,1,1,0,1,0,2,1,1,1,1]),[],(p6 [0,0,2,1,0,0,2,1,2,1])] }
def Wx:dd:={ ops:=[[pX,pX],(p6 [0,1,1]),(p6 [1,1,1,1,2,1,1,1]),(p6 [1,1,1,1,2,1,1,1])] }
def adf:dd:={ ops:=[[],[{},{ mode:=3 },{ takes:=[false,true] }]] }
def adg:dd:={ ops:=[[],[{},{ mode:=3 },{ takes:=[false,true] }]] }
def adh:dd:={ ops:=[[],[{},{ mode:=3 },{ takes:=[false,true] }]] }
def adi:dd:={ ops:=[[],[],[],(p6 [0,1,0,1,2]),(p6 [1,1,1]),(p6 [1,0,0,2,1,0,0,1,2,1,2,1,2,1]),[pX,pX]],ia:=[(0,(qb false [0,1,2,2,21]))] }
def adj:dd:={ ops:=[[],[pX,pX]] }
def adk:dd:={ ops:=[[],[pX,pX]] }
def Wy:dd:={ ops:=[[pX],[{},{ mode:=3 },pX],[{},pX],(p6 [1,0,1]),[pX,pX,{ takes:=[true],mode:=1 },pX]] }
def Wz:dd:={ ops:=[[pX],[pX,pX,pX,pX,{},pX,pX,{ mode:=3 },pX,pX,pX,pX,pX,{ mode:=3 },pX,{ takes:=[true,false,true] },pX]] }
def WA:dd:={ ops:=[[pX,pX],[pX,p3,{ mode:=6 },pX,pX]] }
def WB:dd:={ ops:=[[],[pX,pX,{ mode:=6 },pX,pX]] }
def WC:dd:={ ops:=[[pX],[pX,pX,pX,pX,pX,{},pX,p3,pX,{},{ takes:=[false,true] }],(p6 [1,1,1]),(p6 [0,1,0,1,1,1]),(p6 [0,1,0,1,1,1])] }
def R5:dd:={ ops:=[[],[],(p6 [0,0,1,2]),(p6 [1,1,1]),(p6 [0,0,2,1,1,0,2]),[],[]],ia:=[(0,(qb false [0,2,3,1,13]))] }
def WD:dd:={ ops:=[[pX,pX],(p6 [0,1,1]),(p6 [1,1,1,1,2,1,1,1]),(p6 [1,1,1,1,2,1,1,1])] }
def WE:dd:={ ops:=[[pX],[pX,pX,pX,{},pX,pX,pX,p3,{ mode:=3 },pX,pX]] }
def WG:dd:={ ops:=[[],[pX,pX,{ mode:=6 },pX,pX]] }
def WH:dd:={ ops:=[(p6 [0,1,1]),[pX,{},pX,pX,{ mode:=3 },{ takes:=[false,true,false,true,true],mode:=1 }]] }
def R6:dd:={ ops:=[[],[{ takes:=[true],mode:=1 },pX,pX],[pX,pX],[],(p6 [0,0,1,2]),(p6 [1,1,1]),(p6 [0,0,2,1,0,0,1,2,1,2]),(p6 [0,0,2,1]),[],(p6 [0,0,1,2]),(p6 [1,1,1]),(p6 [0,0,2,1,0,0,1,2,1,2]),(p6 [0,0,0,0,2,1,2,2]),(p6 [1,1,1]),(p6 [0,0,2,1]),(p6 [1,1,2,1]),[pX,pX]],ia:=[(0,(qb false [0,1,2,1,57])),(2,(qb false [0,1,2,3,55]))] }
def WI:dd:={ ops:=[[],[{},pX],[],(p6 [0,1,2,1])] }
def PA:dd:={ ops:=[[],[],[pX],[],(p6 [0,1,1]),[{},pX,pX,pX,pX,{},p3,pX,pX,{},pX,pX,{ takes:=[false,true] },p3],[{},pX,pX,pX,pX,pX,p3,pX,pX,{},pX,pX,{ takes:=[false,true] },p3],[pX,pX],(p6 [0,0,2]),[],[],[pX],[],(p6 [0,0,1,1]),(p6 [1,1,1]),[{},{},pX,pX,pX,{ takes:=[true,true,true] },pX,pX,p3,pX],[pX,pX],[pX,pX]],ia:=[(0,(qb false [0,1,4,1,5,3,52])),(2,(qb false [8,1,38,2,17]))] }
def R7:dd:={ ops:=[[],[],(p6 [1,1,1,1,1,1]),[],[{},pX],(p6 [1,1,1,2,1]),[pX,pX],[pX,pX]],ia:=[(0,(qb false [3,1,6,2,8]))] }
def M6:dd:={ ops:=[[pX],[{ takes:=[true],mode:=1 }],[pX],[],[{},pX,{},{ takes:=[false,true] }],[{},pX],(p6 [1,1,1]),[],[],(p6 [0,1,1]),[{},{},{ mode:=6 }],(p6 [1,1,2,1]),[pX,pX],[{ takes:=[true],mode:=1 },{ takes:=[false,true],mode:=1 }],[pX,pX,{ takes:=[false,true,true],mode:=1 },{ takes:=[true],mode:=2 },pX,{ takes:=[true,true],mode:=1 },pX],[pX,pX],[{},{ takes:=[false,true],mode:=1 }],[{ takes:=[true],mode:=2 },pX]],ia:=[(0,(qb false [2,1,2,1,6,3,31])),(2,(qb false [2,1,2,1,2,2,2,3,6,3,22]))] }
def adn:dd:={ ops:=[[],[],[],[],[],[],[],[],[],[],[],(p6 [0,0,2,1,0,0,1,0,2,1,1,2,1,2])] }
def ado:dd:={ ops:=[[pX,pX],[],[],[],[{},pX],[pX,{ takes:=[false,true] },pX],[pX,pX],[{},{ takes:=[false,true] },pX],[pX,pX,{},{ takes:=[false,true] }],(p6 [0,1,1]),[{},pX,pX,{},{ takes:=[false,true] }],[{ mode:=1 },pX,{ takes:=[false,true] }],[{},{},{ mode:=3 }],[{},{ takes:=[false,true] }],[pX,{},{ mode:=3 },pX,{},pX,pX,pX],[pX,pX,pX,p3,pX,{},{ takes:=[false,true] },pX,pX,p3],[{},pX,{ takes:=[false,true] },pX,pX,p3,p3],[{ mode:=1 },pX,pX,p3,p3],[pX,{ takes:=[false,true] }]],ia:=[(0,(qb false [1,1,1,1,1,3,6,1,48])),(2,(qb false [3,1,1,3,1,1,53]))] }
def adp:dd:={ ops:=[[],[],(p6 [0,0,1,0,2,1,1,2,1,0,0,1,0,2,1,1,2,1,2,1])] }
def Ll:dd:={ ops:=[[],[],[{},{},{ mode:=3 },{ mode:=3 }],[],[{},pX,{},{ takes:=[false,true] }],[{},pX,pX,pX,pX,pX,pX,{},{ takes:=[false,true] }],[],[],(p6 [0,1,1]),[{},pX,{ takes:=[true],mode:=1 },{},pX,pX,pX,pX,pX,p3,pX,pX,p3,{},pX,p3],[pX,pX],[{},{},{ mode:=3 },pX],[],(p6 [0,1,0,1,2]),(p6 [1,1,1]),[{},pX,{ takes:=[true],mode:=1 },{},{},p3,pX,{},{},pX,p3,pX,p3,pX,p3,{},pX,p3],[{ mode:=7 },pX],[{},{},{ mode:=6 },pX],[{},pX],[{},{},pX,p3,{},{},pX,p3,p3,{ mode:=3 },pX],[],[pX],[],[{},pX,{},{ takes:=[false,true] }],(p6 [0,1,0,1,2]),(p6 [1,0,0,1,2,1,0,1,2,1,2,1]),(p6 [1,1,1,2,1]),[pX,pX],(p6 [0,1,1]),(p6 [1,1,1,2,1]),[pX,pX],[pX,pX]],ia:=[(0,(qb false [0,1,2,1,15,3,111])),(2,(qb false [0,1,2,1,1,2,12,3,10,3,98])),(4,(qb false [0,1,2,1,1,2,2,2,8,3,111])),(6,(qb false [0,1,2,1,1,1,7,1,5,3,75,3,33]))] }
def adq:dd:={ ops:=[[],[],[],[],[],[],[pX,{},{},{},p3,pX,{ mode:=3 },{ mode:=3 },pX,pX,{ takes:=[false,true] },p3,pX]] }
def adr:dd:={ ops:=[[],[],[{},{ mode:=3 },{ takes:=[true],mode:=1 }],[],(p6 [0,1,1]),[],[],[],[{},pX,{},{ takes:=[false,true] }],[{},{},{},{ takes:=[false,true,true],mode:=1 },{ takes:=[true],mode:=2 }],[],[],[{},pX],[{},pX,p3,{},{ takes:=[false,true] }],[{},{},{ mode:=3 },pX,{},pX,pX,pX],[{},pX,pX,pX,{},p3,{ takes:=[true,false,true] },pX,{},{},pX,{ mode:=3 },p3],(p6 [1,1,1,2,1]),[pX,pX],[pX,pX],(p6 [0,1,1]),[pX,pX],[pX,{ mode:=3 },{},{ takes:=[false,true] }],(p6 [1,0,1,2,1]),[pX,{},{ takes:=[false,true,true],mode:=1 },pX],[{},pX,{ mode:=3 },pX,{},pX,pX],[pX,pX]],ia:=[(0,(qb false [0,1,2,3,75])),(2,(qb false [0,1,2,4,13,3,58])),(4,(qb false [0,1,2,4,1,2,10,3,7,1,50]))] }
def WJ:dd:={ ops:=[[pX,pX],[p3,pX]] }
def ads:dd:={ ops:=[[],[],[],[],[],[],[],[],[],[],[],[{},{},{},p3,{},pX,p3,{},{},{ mode:=3 },{},{},pX,{ mode:=3 },pX,{},{},pX,pX]] }
def adt:dd:={ ops:=[[],[pX,pX,{},{ takes:=[false,true] }],[],(p6 [0,1,0,1,2]),(p6 [1,1,1]),[{},{ takes:=[true],mode:=1 },{},{},p3,pX,{},{},pX,p3,pX,p3,pX,p3,{},p3],[pX,{ takes:=[false,true] }]],ia:=[(0,(qb false [1,1,2,3,25]))] }
def WK:dd:={ ops:=[[],[pX,pX,{ mode:=6 },pX,pX]] }
def WL:dd:={ ops:=[[],[{},pX,p3,pX,pX,pX,p3,{ takes:=[true,false,true] },pX]] }
def R9:dd:={ ops:=[[],[{},pX],[],[{},pX],[{},{},{},p3,pX,{ mode:=6 }],[pX,pX],[pX,pX],[]],ia:=[(0,(qb false [0,2,5,2,10]))] }
def R_:dd:={ ops:=[[],[{},pX],[],[{},pX],[{},{},{},p3,pX,{ mode:=6 }],[pX,pX],[pX,pX],[]],ia:=[(0,(qb false [0,2,5,2,10]))] }
def WM:dd:={ ops:=[[],[],(p6 [0,0,2,1]),[{},pX],[pX,pX,pX,{ takes:=[false,true,true,true],mode:=1 }],[{},pX],[pX,pX,pX,{ takes:=[false,true,true,true],mode:=1 }],[{},pX],[{},{},{},{ takes:=[false,true,true,true],mode:=1 }],(p6 [1,1,1]),[{},{},{},{ takes:=[false,true,true,true],mode:=1 },pX,{},pX,pX,pX],[{},pX],[{},{},{},{ takes:=[false,true,true,true],mode:=1 }],(p6 [0,1,1,0,2,2,1]),[],(p6 [0,1,0,2,1,1,1,2]),[{},{},{},{ takes:=[false,true,true,true],mode:=1 }],[{},pX,pX,{},{},pX,p3,pX,{},{},p3,pX,{ mode:=3 },pX,{ takes:=[false,true] }],[{},pX,{},pX,{ takes:=[false,true,true,true,true],mode:=1 },pX],[pX,pX],[{},{},{},pX,{ takes:=[false,true,true,true,true],mode:=1 },pX,{},pX,pX,pX],[pX,pX],(p6 [0,0,2,0,0,2,1,1]),(p6 [1,1,1]),(p6 [0,0,2]),(p6 [1,1,2,1]),[{},pX,{},{},{ takes:=[false,true,true,true,true],mode:=1 }],(p6 [1,1,1]),(p6 [1,1,2,1]),[{},{},pX,pX,{},{ takes:=[false,true,true,true,true],mode:=1 }],[pX,pX]],ia:=[(0,(qb false [0,4,4,2,124]))] }
def adu:dd:={ ops:=[[],[pX,pX,{ mode:=3 },pX],[pX,{ mode:=3 },pX]] }
def WN:dd:={ ops:=[[],[pX,p3,{ mode:=6 },pX]] }
def WO:dd:={ ops:=[[],[pX,pX,pX,{ mode:=3 },pX]] }
def V5:dd:={ bad:=true,ops:=[[],[{},pX,pX,pX,pX,pX,p3,pX,{},pX,pX,pX,{ takes:=[true],mode:=3 },pX,p3,{ takes:=[true],mode:=3 },{},{},{ takes:=[false,true] },{ takes:=[false,true] }],[{},pX,{},pX,p3,pX,{},pX,{},pX,p3,{ takes:=[true,false,true] },pX,{},pX,{},pX,p3,{ takes:=[true,false,true] },pX,pX,pX,pX,pX,p3,{ takes:=[true,false,true] },pX]] }
def acx:dd:={ ops:=[[],(p6 [0,0,0,1]),[{},pX],[pX,{ takes:=[true],mode:=4 }],(p6 [0,1,1]),(p6 [0,0,1,2]),(p6 [1,1,1]),(p6 [0,0,2,1,1]),(p6 [0,0,0,1]),(p6 [0,0,1,2,2]),(p6 [1,1,1]),(p6 [0,0,2,1]),[pX,pX,p3,{ takes:=[true],mode:=4 }]],ia:=[(0,(qb false [0,2,3,2,35]))] }
def V6:dd:={ ops:=[(p6 [0,1,1]),[pX,{},pX,pX,{ mode:=3 },pX,{ takes:=[false,true,false,true,true,true],mode:=1 }]] }
def V7:dd:={ ops:=[[],(p6 [1,1,1,1,1,1,2,1])] }
def L1:dd:={ ops:=[[pX],[{},{},{ takes:=[false,true] }],(p6 [0,1,1,1,1,1]),[],[{},pX],(p6 [0,0,1,0,0,1,2,2]),[pX,pX],[{ takes:=[true],mode:=1 }],[{},pX,pX,pX,pX,pX,pX,pX,{},{ takes:=[false,true] }],(p6 [0,1,1]),[{},{},{ mode:=3 }],[{},{ takes:=[false,true] }],(p6 [0,0,2,1]),(p6 [0,0,2]),[pX,{},pX,{},pX,{ takes:=[false,true] },p3,p3],[{ mode:=5 },{},pX,{ takes:=[true,true],mode:=1 },p3],[pX,pX,{ mode:=3 },pX,{},pX,p3],(p6 [0,1,1]),[{},{},pX,pX,p3,pX,{},{ takes:=[false,true] }],[{ mode:=5 },{},pX,pX,p3,{ takes:=[false,true] }],[pX,{},pX,{ takes:=[true,true],mode:=1 },pX],[{},pX,{ mode:=3 },pX,{},pX,{ takes:=[false,true] }],[{},{ takes:=[false,true],mode:=1 }],[{ takes:=[true],mode:=2 },pX]],ia:=[(0,(qb false [1,1,1,1,13,2,73])),(2,(qb false [1,1,1,1,1,4,83]))] }
def V8:dd:={ ops:=[[pX],(p6 [1,1,1,1,2,1])] }
def Py:dd:={ ops:=[[],[],[],[],(p6 [0,1,1]),(p6 [1,1,1,2,1]),[{},pX],[{},pX],[pX,pX],(p6 [1,0,1]),[pX],[],(p6 [0,1,1]),(p6 [1,1,2,1]),[pX,pX],[pX,pX]],ia:=[(0,(qb false [0,1,2,1,5,3,24])),(2,(qb false [6,1,18,3,8]))] }
def V9:dd:={ ops:=[[],[{ takes:=[true],mode:=1 },{},{ mode:=6 },pX],[{},pX],[pX,pX],(p6 [0,1,1]),(p6 [0,0,1,2]),(p6 [1,1,1]),(p6 [0,0,2,1,1]),[{},{},{ mode:=6 },pX],(p6 [0,0,1,2,2]),(p6 [1,1,1]),(p6 [0,0,2,1]),(p6 [1,1,2,1])],ia:=[(0,(qb false [0,2,3,2,35]))] }
def V_:dd:={ ops:=[[],(p6 [1,1,2,1])] }
def V':dd:={ ops:=[[pX,pX],[{},pX],[{},{},{ mode:=3 },pX],(p6 [0,1,1,1]),[],[{},pX,pX,pX,{},pX,pX,pX,pX,pX,{ mode:=3 },pX,p3,{ takes:=[true,false,true] },pX,{},pX,{ mode:=6 },pX,{ takes:=[true,false,true] },pX],[],[pX,pX,{ mode:=3 },pX,pX,pX]] }
def R0:dd:={ ops:=[[],[{},pX,pX,{},{ takes:=[false,true] }],[pX,pX],[],[{},pX,{},{ takes:=[false,true] }],[{},{},{},{ mode:=6 }],[pX,{ takes:=[false,true] }],[pX,pX],[pX,{ takes:=[false,true] }]],ia:=[(0,(qb false [1,1,2,2,6,3,10]))] }
def Wa:dd:={ ops:=[[pX,pX],(p6 [1,1,1,1,2,1])] }
def Wb:dd:={ ops:=[[],(p6 [1,1,1,2,1])] }
def Wc:dd:={ ops:=[(p6 [0,1,1,1,1,1]),[],[{},pX],[],[],[{},pX],[{},pX,p3,{},{ takes:=[false,true] }],[{},{},{ mode:=3 },pX,{},pX,pX,pX],[pX,{},p3,pX,{},pX,{ takes:=[true,true],mode:=1 },pX,p3],[pX,pX],[pX,pX]],ia:=[(0,(qb false [0,3,11,2,25])),(2,(qb false [0,3,1,1,9,2,2,1,22]))] }
def R1:dd:={ ops:=[[],[{},pX],[],[{},pX],[{},{},{},p3,pX,{ mode:=6 }],[pX,pX],[pX,pX],[]],ia:=[(0,(qb false [0,2,5,2,10]))] }
def Wd:dd:={ ops:=[(p6 [0,1,1]),(p6 [0,0,2]),(p6 [1,1,1]),[{},pX],[{},{},p3,pX,{},{},p3,pX,{},{},pX,p3,pX,{ mode:=3 },{ takes:=[false,true] }],(p6 [1,1,1]),(p6 [0,0,0,0,1,0,0,1,2,1,0,0,2,1,2,2,2,2])],ia:=[(0,(qb false [0,3,3,1,42])),(2,(qb false [0,3,3,2,41]))] }
def acA:dd:={ ops:=[[],[],[],[],[],[],[],[],[],[],(p6 [0,0,0,0,0,2,0,0,0,2,2,1,0,0,2,1,2,2,2,2])] }
def acB:dd:={ ops:=[[],[],[],[],[],[],[],[],[],[],(p6 [0,0,0,0,0,2,0,0,0,2,2,1,0,0,2,1,2,2,2,2])] }
def acC:dd:={ ops:=[[],[],[],(p6 [0,0,0,0,0,0,2,1,0,0,2,1,2,2,2,2])] }
def acE:dd:={ ops:=[[],[],[],[],[],[{},{},p3,pX,{},{},p3,pX,{},{},pX,p3,pX,{ mode:=3 },pX,{ takes:=[false,true] }],[],[],[],[],[],(p6 [0,0,0,0,1,0,0,1,2,1,0,0,2,1,2,2,2,2]),[],[],[],[],[{},{},p3,pX,{},{},pX,p3,pX,{ mode:=3 },pX],(p6 [0,0,0,0,1,0,0,1,2,1,0,0,2,1,2,2,2,2]),[],[],[],[],[{},{},p3,pX,{},{},pX,p3,pX,{ mode:=3 },pX],(p6 [0,0,0,0,1,0,0,1,2,1,0,0,2,1,2,2,2,2])] }
def We:dd:={ ops:=[[],[{},{ mode:=3 },pX,{},{ mode:=3 },pX,p3,pX,pX,pX,p3,{ takes:=[true,false,true] },pX]] }
def acF:dd:={ ops:=[[],(p6 [0,0,0,0,0,0,2,1,0,0,2,1,2,2,2,2]),[],[{},{},p3,pX,{},{},p3,pX,{},{},p3,pX,{ mode:=3 },pX,{ takes:=[false,true] }],[],[{},{},p3,pX,{},{},p3,pX,{},{},p3,pX,{ mode:=3 },{ takes:=[false,true] }],[],[],(p6 [0,0,0,0,0,0,2,1,0,0,2,1,2,2,2,2])] }
def acG:dd:={ ops:=[[],(p6 [0,0,0,0,0,0,2,1,0,0,2,1,2,2,2,2]),[],[{},{},p3,pX,{},{},p3,pX,{},{},p3,pX,{ mode:=3 },{ takes:=[false,true] }],[],[{},{},p3,pX,{},{},p3,pX,{},{},p3,pX,{ mode:=3 },pX,{ takes:=[false,true] }],[],[],(p6 [0,0,0,0,0,0,2,1,0,0,2,1,2,2,2,2]),[],(p6 [0,0,0,0,0,0,2,1,0,0,2,1,2,2,2,2]),[],[],[{},{},p3,pX,{},{},p3,pX,{},{},p3,pX,{ mode:=3 },{ takes:=[false,true] }],[],[{},{},p3,pX,{},{},p3,pX,{},{},p3,pX,{ mode:=3 },pX,{ takes:=[false,true] }],[],[],(p6 [0,0,0,0,0,0,2,1,0,0,2,1,2,2,2,2]),[],[],(p6 [0,0,0,0,0,0,2,1,0,0,2,1,2,2,2,2])] }
def acH:dd:={ ops:=[[],[{},pX],(p6 [1,1,1]),[],[{},pX],(p6 [1,1,1]),(p6 [1,1,1]),[pX,pX,pX,{ takes:=[false,true] },pX,p3,pX]] }
def acI:dd:={ ops:=[[],[{},pX],(p6 [1,1,1]),[],[{},pX],(p6 [1,1,1]),(p6 [1,1,1]),[{},pX],(p6 [1,1,1]),(p6 [1,1,1]),[pX,pX,pX,{ takes:=[false,true] },pX,p3,pX]] }
def Wf:dd:={ ops:=[[],[{},pX],[],[{},pX],[{},{},{},p3,pX,{ mode:=6 }],[pX,pX],[pX,pX],[]],ia:=[(0,(qb false [0,2,5,2,10]))] }
def Wg:dd:={ ops:=[[],[],(p6 [0,0,2,1]),[{},pX],[pX,pX,pX,pX,{ takes:=[false,true,true,true,true],mode:=1 }],[{},pX],[pX,pX,pX,pX,{ takes:=[false,true,true,true,true],mode:=1 }],[{},pX],[{},{},{},{},{ takes:=[false,true,true,true,true],mode:=1 }],(p6 [1,1,1]),[{},{},{},{},{ takes:=[false,true,true,true,true],mode:=1 },pX,{},pX,pX,pX],[{},pX],[{},{},{},{},{ takes:=[false,true,true,true,true],mode:=1 }],(p6 [0,1,1,0,2,2,1]),[],(p6 [0,1,0,2,1,1,1,2]),[{},{},{},{},{ takes:=[false,true,true,true,true],mode:=1 }],[{},pX,pX,{},{},{},pX,p3,pX,{},{},p3,pX,{ mode:=6 },pX,pX,{ takes:=[false,true] }],[{},pX,{},pX,{},{ takes:=[false,true,true,true,true,true],mode:=1 },pX],[pX,pX],[{},{},{},pX,{},{ takes:=[false,true,true,true,true,true],mode:=1 },pX,{},pX,pX,pX],[pX,pX],(p6 [0,0,2,0,0,2,1,1]),(p6 [1,1,1]),(p6 [0,0,2]),(p6 [1,1,2,1]),[{},pX,{},{},{},{ takes:=[false,true,true,true,true,true],mode:=1 }],(p6 [1,1,1]),(p6 [1,1,2,1]),[{},{},pX,pX,{},{},{ takes:=[false,true,true,true,true,true],mode:=1 }],[pX,pX]],ia:=[(0,(qb false [0,5,5,2,136]))] }
def Wh:dd:={ ops:=[(p6 [0,1,1,0,1]),(p6 [0,0,2]),(p6 [1,1,1,1,1,1]),(p6 [0,0,0,0,0,0,2,1,0,0,2,1,2,2,2,2])],ia:=[(0,(qb false [0,1,1,2,24]))] }
def acJ:dd:={ ops:=[[],[{},pX],[{},pX],(p6 [1,0,1,0,1,2,2,1]),[{},pX],(p6 [0,0,1,2,1,2,1,1,2,1]),[pX,pX]] }
def Wi:dd:={ ops:=[[],[{},pX,pX,pX,pX,{},p3,pX,pX,{},p3,pX,{},pX,pX,pX,pX,{},p3,pX,pX,{},p3,{ takes:=[false,false,true] },pX]] }
def Wj:dd:={ ops:=[[],[pX,pX,{ mode:=3 },pX,pX]] }
def acL:dd:={ ops:=[[],[],[],[{},pX,{},p3,pX,{},{},{},p3,p3,pX,{},{},{},p3,pX,p3,pX,{ mode:=3 },{ takes:=[false,true] }],[],[{},{},{},p3,p3,pX,{},{},{},p3,p3,pX,{ mode:=3 },pX],(p6 [0,0,0,2,0,0,0,2,0,0,0,2,2,1,0,0,0,2,2,1,2,2,2,2])] }
def acM:dd:={ ops:=[[],(p6 [0,0,1,0,1,1,1,2,0,2]),(p6 [0,0,1,0,1,1,1,2,0,2]),(p6 [0,0,1,0,1,1,1,2,0,2])] }
def Wk:dd:={ ops:=[[],(p6 [0,1,2,1])] }
def Wl:dd:={ ops:=[(p6 [0,1,1]),(p6 [0,0,2]),(p6 [1,1,1]),[{},pX],[{},{},p3,pX,{},{},{},p3,pX,{},{},pX,p3,pX,{ mode:=6 },pX,{ takes:=[false,true] }],(p6 [1,1,1]),(p6 [0,0,0,0,1,0,0,1,2,1,0,0,2,1,2,2,2,2])],ia:=[(0,(qb false [0,4,4,1,44])),(2,(qb false [0,4,4,2,43]))] }
def acN:dd:={ ops:=[[],[],[],[],[],[],[],[],[],[],(p6 [0,0,0,0,0,2,0,0,0,2,2,1,0,0,2,1,2,2,2,2])] }
def acP:dd:={ ops:=[[],[],[],[],[],[],[],[],[],[],(p6 [0,0,0,0,0,2,0,0,0,2,2,1,0,0,2,1,2,2,2,2])] }
def acQ:dd:={ ops:=[[],[],[],(p6 [0,0,0,0,0,0,2,1,0,0,2,1,2,2,2,2])] }
def acR:dd:={ ops:=[[],[],[],[],[],[{},{},p3,pX,{},{},{},p3,pX,{},{},pX,p3,pX,{ mode:=6 },pX,pX,{ takes:=[false,true] }],[],[],[],[],[],(p6 [0,0,0,0,1,0,0,1,2,1,0,0,2,1,2,2,2,2]),[],[],[],[],[{},{},{},p3,pX,{},{},pX,p3,pX,{ mode:=6 },pX,pX],(p6 [0,0,0,0,1,0,0,1,2,1,0,0,2,1,2,2,2,2]),[],[],[],[],[{},{},{},p3,pX,{},{},pX,p3,pX,{ mode:=6 },pX,pX],(p6 [0,0,0,0,1,0,0,1,2,1,0,0,2,1,2,2,2,2])] }
def acS:dd:={ ops:=[[],(p6 [0,0,0,0,0,0,2,1,0,0,2,1,2,2,2,2]),[],[{},{},p3,pX,{},{},{},p3,pX,{},{},p3,pX,{ mode:=6 },pX,pX,{ takes:=[false,true] }],[],[{},{},p3,pX,{},{},{},p3,pX,{},{},p3,pX,{ mode:=6 },pX,{ takes:=[false,true] }],[],[],(p6 [0,0,0,0,0,0,2,1,0,0,2,1,2,2,2,2])] }
def acT:dd:={ ops:=[[],(p6 [0,0,0,0,0,0,2,1,0,0,2,1,2,2,2,2]),[],[{},{},p3,pX,{},{},{},p3,pX,{},{},p3,pX,{ mode:=6 },pX,{ takes:=[false,true] }],[],[{},{},p3,pX,{},{},{},p3,pX,{},{},p3,pX,{ mode:=6 },pX,pX,{ takes:=[false,true] }],[],[],(p6 [0,0,0,0,0,0,2,1,0,0,2,1,2,2,2,2]),[],(p6 [0,0,0,0,0,0,2,1,0,0,2,1,2,2,2,2]),[],[],[{},{},p3,pX,{},{},{},p3,pX,{},{},p3,pX,{ mode:=6 },pX,{ takes:=[false,true] }],[],[{},{},p3,pX,{},{},{},p3,pX,{},{},p3,pX,{ mode:=6 },pX,pX,{ takes:=[false,true] }],[],[],(p6 [0,0,0,0,0,0,2,1,0,0,2,1,2,2,2,2]),[],[],(p6 [0,0,0,0,0,0,2,1,0,0,2,1,2,2,2,2])] }
def R2:dd:={ ops:=[[],[{},pX],[],[{},pX],(p6 [0,0,0,2,1,2]),[pX,pX],[pX,pX],[]],ia:=[(0,(qb false [0,2,5,2,10]))] }
def acU:dd:={ ops:=[[],[{},{},p3,pX,{},{},p3,pX,{ mode:=3 }]] }
def acV:dd:={ ops:=[[],[],[],[{},pX,{},p3,pX,{},{},{},{},p3,p3,pX,{},{},{},p3,pX,p3,pX,{ mode:=6 },pX,{ takes:=[false,true] }],[],[{},{},{},{},p3,p3,pX,{},{},{},p3,p3,pX,{ mode:=6 },pX,pX],(p6 [0,0,0,2,0,0,0,2,0,0,0,2,2,1,0,0,0,2,2,1,2,2,2,2])] }
def acX:dd:={ ops:=[[],[pX,{},{},p3,pX,{},{},p3,pX,{ mode:=6 },pX]] }
def adv:List dd:=[{},{},acZ,ac3,{},{},{},adl,adm,PB,acw,acz,acD,acK,acO,acW,Wm,acY,Od,Oe,Wn,R3,Wo,ac0,R4,Wp,Pz,ac1,{},ac2,{},ac4,{},ac5,ac6,Wq,{},Wr,ac7,Ws,{},Wt,Wu,ac8,{},ac9,{},Wv,Ww,{},HT,ac_,ada,{},adb,{},ade,Wx,adf,adg,adh,adi,adj,adk,Wy,Wz,WA,WB,WC,R5,WD,WE,WG,WH,R6,WI,PA,R7,{},M6,adn,ado,adp,Ll,adq,adr,{},{},{},WJ,ads,adt,WK,WL,R9,R_,WM,adu,WN,WO,V5,acx,V6,V7,L1,V8,Py,V9,V_,V',R0,Wa,Wb,Wc,R1,Wd,acA,acB,{},acC,acE,We,acF,acG,acH,acI,Wf,Wg,Wh,acJ,Wi,Wj,acL,{},acM,{},{},Wk,Wl,acN,acP,{},acQ,acR,acS,acT,R2,acU,acV,{},{},acX]
def jx (k:FuncId):dd:=adv.getD k {}
end Go.Proofs.YtfakoboiahbhaaaGreat.Ab


namespace Go.Proofs.YtfakoboiahbhaaaGreat.Ab
open Go
end Go.Proofs.YtfakoboiahbhaaaGreat.Ab


namespace Go.Proofs.YtfakoboiahbhaaaGreat.Ab
open Go
end Go.Proofs.YtfakoboiahbhaaaGreat.Ab


namespace Go.Proofs.YtfakoboiahbhaaaGreat.Ab
open Go
theorem et:Go.Proofs.Tryz.prog.follows .mixedOrders=true:=by kernel_rfl
abbrev qB (k:FuncId) (args:List I) (v:I):Prop:=lE Go.Proofs.Tryz.prog k args v
abbrev hW (n:Int):I:=.int .i64 n
abbrev r1:I:=.junk
abbrev B (b:Bool):I:=.bool b
def oN (l:List Int):I:=.ax (l.map hW) l.length .shared
def jo (l:List (List Int)):I:=.ax (l.map oN) l.length .shared
theorem YQ (d:Nat) (l:List Int):(l.map hW).all (cj (d+1))=true:=by
 rw [sR];intro u hu;obtain ⟨x,_,rfl⟩:=sM.1 hu;rfl
theorem YP (d:Nat) (l:List Int):cj (d+2) (oN l)=true:=YQ d l
theorem TP (d:Nat) (l:List (List Int)):(l.map oN).all (cj (d+2))=true:=by
 rw [sR];intro u hu;obtain ⟨x,_,rfl⟩:=sM.1 hu;exact YP d x
theorem ahF (d:Nat) (l:List (List Int)):cj (d+3) (jo l)=true:=TP d l
theorem Nv (k:IntKind) (n:Int):cj 8 (.int k n)=true:=rfl
theorem ND (b:Bool):cj 8 (.bool b)=true:=rfl
theorem Nw (l:List Int) (n:Nat) (c:hv):cj 8 (.ax (l.map hW) n c)=true:=YQ 6 l
theorem Ny (l:List (List Int)) (n:Nat) (c:hv):cj 8 (.ax (l.map oN) n c)=true:=TP 5 l
theorem Nx (l:List Int):cj 8 (oN l)=true:=YP 6 l
theorem Nz (l:List (List Int)):cj 8 (jo l)=true:=ahF 5 l
theorem NF (k:FuncId):cj 8 (.func k [] [])=true:=rfl
theorem NG (n:Nat) (c:hv):cj 8 (.ax [] n c)=true:=rfl
theorem K_ (l:List (List Int)) (n:Nat) (c:hv):cj 8 (.agg [.ax (l.map oN) n c])=true:=by
 show [I.ax (l.map oN) n c].all (cj 7)=true;rw [tJ,ux,uj];exact TP 4 l
theorem NA (l:List (List Int)):cj 8 (.agg [jo l])=true:=K_ l _ _
theorem NB (l:List (List Int)):cj 8 (.bU [jo l])=true:=K_ l _ _
theorem NC (l:List (List Int)) (n:Nat) (c:hv):cj 8 (.bU [.ax (l.map oN) n c])=true:=K_ l _ _
theorem ahb {α:Type} (f:α→I) (l:List α) (i:Nat) (h:i<l.length) {K:I→Prop} (k:K (f l[i])):eK ((l.map f).drop (i*1)) 0 K :=
 Es (x:=f l[i]) (by simp [h]) k
theorem rJ (i:Nat) (h:i≤9223372036854775806):IntKind.i64.wrap ((i:Int)+1)=((i+1:Nat):Int):=by rw [IntKind.wrap_i64];omega
theorem Jn (n:Int) (ad:-9223372036854775808≤n) (af:n≤9223372036854775807):IntKind.i64.wrap n=n:=by rw [IntKind.wrap_i64];omega
theorem YO:∀ {d:Nat} {v:I},cj d v=true→cj (d+1) v=true
 | 0,v,h=>by simp [cj] at h
 | d+1,v,h=>by
   have key:∀ {l:List I},l.all (cj d)=true→l.all (cj (d+1))=true:=fun h=>by
    rw [sR] at h ⊢;exact fun u hu=>YO (h u hu)
   cases v <;> simp only [cj,sO,ua] at h ⊢ <;> first | trivial | exact key h | exact ⟨key h.1,key h.2⟩
theorem Ip {p:Prop} [Decidable p] {A C:Prop} (ad:p→A) (af:¬ p→C):(match decide p with | true=>A | false=>C):=by
 by_cases h:p
 ·simp only [h,decide_true];exact ad h
 ·simp only [h,decide_false];exact af h
theorem HS {k:FuncId} {xs:List I} {v:I}:∀ p∈([]:dk),p.1=k→p.2.1=xs→p.2.2=v:=fun _ h=>by simp at h
theorem yk {k k':FuncId} {xs ys:List I} {v bn:I} (h:k'=k→ys=xs→bn=v):∀ p∈([(k',ys,bn)]:dk),p.1=k→p.2.1=xs→p.2.2=v:=fun p aB=>by
 simp only [List.mem_singleton] at aB;subst aB;exact h
theorem Ib {k:FuncId} {xs:List I} {v:I} {acc:dk} (h:acc.all (fun p=>p.1 != k)=true):∀ p∈acc,p.1=k→p.2.1=xs→p.2.2=v:=fun p aB e=>by
 have:=sR.1 h p aB;simp [e] at this
def sk (cap:List I):Prop:=cap.all (cj 7)=true∧∀ u∈cap,∃ cs,u=.bU cs
theorem sk.M5 {cap:List I} (h:sk cap):cap.all (cj 8)=true:=by
 have ad:=h.1;rw [sR] at ad ⊢;exact fun u hu=>YO (ad u hu)
theorem sk.ir {cap:List I} (h:sk cap) (H:List ar):cap.map (ir H)=cap:=by
 conv=>rhs;rw [←vB cap]
 apply uN;intro u hu;obtain ⟨cs,rfl⟩:=h.2 u hu;rfl
theorem sk.hP {cap:List I} (h:sk cap) (H:List ar):cap.map (hP H)=cap:=by
 conv=>rhs;rw [←vB cap]
 apply uN;intro u hu;obtain ⟨cs,rfl⟩:=h.2 u hu;rfl
theorem sk.cr {cap:List I} (h:sk cap):cap.map I.cr=cap:=by
 conv=>rhs;rw [←vB cap]
 apply uN;intro u hu;obtain ⟨cs,rfl⟩:=h.2 u hu;rfl
theorem sk.fn {cap:List I} (h:sk cap) (H:List ar) (k:FuncId):Ab.ir H (.func k [] cap)=.func k [] cap:=by
 simp only [Ab.ir,h.hP,List.map_nil]
theorem sk.OV {cap:List I} (h:sk cap) (k:FuncId):cj 8 (.func k [] cap)=true:=by
 show (([]:List I).all (cj 7) && cap.all (cj 7))=true;rw [h.1];rfl
theorem sk.nil:sk []:=⟨rfl,by simp⟩
section
variable {P:Program}
theorem call6 {k:FuncId} {xs bs:List I} {H:List ar} {lo:Nat} {v:I} (ag:(xs.map (ir H)).map I.cr=bs) (aB:(xs.map (ir H)).all (cj 8)=true) (h:lE P k bs v) (ai:fz v=true):oL P 6 lo (.fn k) xs H v.cr H:=by
 subst ag;refine ⟨k2 (.fn k) ((xs.map (ir H)).map I.cr) [] 0 v [],Ew h.1,?_⟩;simp only [e3,aB,Ev,sx,o' h.2,ai]
end
theorem Xu {H:List ar} {id d:Nat} {l:List I} (h:H[id]?=some (.cells l)) (aB:(l.map I.view).all (cj d)=true):bJ H 0 H.length 0 (d+1) (.ptr id 0)=some (.bU (l.map I.view)):=by
 have ad:=(sv.1 h).1;have af:ec (bJ H 0 H.length 0 d) (l.map I.view)=some (l.map I.view):=zP fun u hu=>o' (by rw [sR] at aB;exact aB u hu);simp only [bJ,Nat.not_lt_zero,if_false,h,th,af,sD];rw [if_neg (by omega)]
def idxOf {α:Type} (p:α→Bool):List α→Nat→Int
 | [],_ => -1
 | x::l,i=>if p x=true then i else idxOf p l (i+1)
end Go.Proofs.YtfakoboiahbhaaaGreat.Ab


namespace Go.Proofs.YtfakoboiahbhaaaGreat.Ab
open Go
section
variable {P:Program}
theorem Sv (et:P.follows .mixedOrders=true) {k:Nat} {A:dd} {rc:fW} {n:Nat} {ts:List jr} (ao:zE P A k=some (rc,n,ts)) {lo:Nat} {args T:List I} {H H':List ar} (bX:args++List.replicate (n-args.length) .junk=T) {v:I} (Jd:bc lo H H')
  (h:dR P A k lo none rc T H fun e fX H1=>(e=.normal∨e=.ret)∧lD H1 H'∧(j' H1 fX ts).map hl=some v):Sem P (.fn k) args H lo v H':=by
 unfold zE at ao;split at ao
 ·rename_i f aP;split at ao
  ·rename_i c ag;split at ao
   ·rename_i G7 Gh ad af aG a6;simp only [Option.some.injEq,Prod.mk.injEq] at ao;obtain ⟨rfl,rfl,rfl⟩:=ao;subst bX;refine Hb et aP ag (by simpa using af) ad Jd (m_ (fun e s a0=>?_) (DV aG h));obtain ⟨cb,b6,er⟩:=a0;simp only [su] at er;obtain ⟨vs,er,iF⟩:=er;exact ⟨cb,b6,vs,by rw [xD _ _ a6,er],iF⟩
   ·cases ao
  ·cases ao
 ·cases ao
end
theorem HB {P:Program} (et:P.follows .mixedOrders=true) {k:Nat} {A:dd} {rc:fW} {n:Nat} {ts:List jr} (ao:zE P A k=some (rc,n,ts)) {lo:Nat} {args T:List I} {H H':List ar} (bX:args++List.replicate (n-args.length) .junk=T) {v:I} (Jd:bc lo H H')
  (h:∀ Q:cA→List I→List ar→Prop,(∀ e fX H1,(e=.normal∨e=.ret)∧lD H1 H'∧(j' H1 fX ts).map hl=some v→Q e fX H1)→dR P A k lo none rc T H Q):Sem P (.fn k) args H lo v H' :=
 Sv et ao bX Jd (h _ fun _ _ _ h=>h)
theorem I5 {P:Program} {A:dd} {fn:FuncId} {lo:Nat} {rl:Option Nat} {c:fW} {T:List I} {H:List ar} {K:cA→List I→List ar→Prop} (h:∀ K':cA→List I→List ar→Prop,(∀ e T H,K e T H→K' e T H)→dR P A fn lo rl c T H K'):dR P A fn lo rl c T H K:=h K fun _ _ _ h=>h
theorem HL {P:Program} {lo:Nat} {b0:fb} {xs:List I} {H H':List ar} {v:I} (h:Sem P b0 xs H lo v H'):oL P 1 lo b0 xs H v H' :=
 ⟨k2 b0 xs H lo v H',Ew h,by simp only [e3,Ev]⟩
theorem Zj {P:Program} {k:FuncId} {args:List I} {v:I} (cc:args.all (cj 8)=true) (h:lE P k args v) (H:List ar):Sem P (.fn k) args H H.length v H:=by
 obtain ⟨⟨_,ad,af⟩,aB⟩:=h
 exact ⟨bc.refl _ _,ad,fun B U J S w vs ah aN ae=>CallsIn.mono (af B _ [] S w vs (zf ah) (fun b i h=>by obtain ⟨_,_,h⟩:=lM h;cases h) (ae.pure cc)) fun e w' he=>by
  cases e with
  | returned v=>exact z_ ah (o' (n:=0) aB) he
  | panicked c=>exact he.elim
  | outgrown=>exact he.elim⟩
theorem adP {P:Program} {k:FuncId} {args:List I} {v:I} (cc:args.all (cj 8)=true) (h:lE P k args v) (H:List ar) (lo:Nat):oL P 0 lo (.fn k) args H v H :=
 ⟨_,Ew (Zj cc h H),by simp only [e3,Ev,sx,o' h.2,sD]⟩
theorem qY {X Z:List ar} {j:Nat} {o:ar} (h:X[j]?=some o):(X++Z)[j]?=some o:=by
 rw [sQ (sv.1 h).1];exact h
theorem rB (X:List ar) (c dX:ar):(X++[c]).set X.length dX=X++[dX]:=by simp
theorem JU (X:List ar) (c:ar):(X++[c])[X.length]?=some c:=by simp
end Go.Proofs.YtfakoboiahbhaaaGreat.Ab


namespace Go.Proofs.YtfakoboiahbhaaaGreat.Ab
open Go
def qc:Nat:=18446744073709551616
theorem r6 {n:Nat} (h:n≤9223372036854775808):n<qc:=by unfold qc;omega
def qg (p:Prop) [Decidable p] {aU:Type} (k:Option aU):Option aU:=if p then k else none
theorem qC {p:Prop} [Decidable p] {aU:Type} {k:Option aU} {v:aU} (h:qg p k=some v):p∧k=some v:=by
 unfold qg at h;split at h
 ·exact ⟨by assumption,h⟩
 ·cases h
theorem qz {p:Prop} [Decidable p] {aU:Type} {k:Option aU} (h:p):qg p k=k:=if_pos h
theorem qm {α aU:Type} {x:Option α} {f:α→Option aU} {v:aU} (h:x.bind f=some v):∃ a,x=some a∧f a=some v:=by
 cases x with
 | none=>cases h
 | some a=>exact ⟨a,rfl,h⟩
theorem Hm {b:Bool} {aU:Type} {x y:Option aU} {v:aU} (ag:b=true) (h:(if b=true then x else y)=some v):x=some v:=by
 rw [if_pos ag] at h;exact h
theorem Hl {b:Bool} {aU:Type} {x y:Option aU} {v:aU} (ag:b=false) (h:(if b=true then x else y)=some v):y=some v:=by
 rw [if_neg (by rw [ag];decide)] at h;exact h
theorem Jr (b:Bool):b=true∨b=false:=by cases b <;> simp
def ix {α:Type} [Inhabited α] (l:List α) (i:Int):α:=l.getD i.toNat default
theorem ry {α:Type} [Inhabited α] {l:List α} {k:Nat} (h:k<l.length):ix l (k:Int)=l[k]:=by
 simp [ix,h]
theorem Qf {α:Type} [Inhabited α] {l:List α} {i:Int} (h:0≤i∧i<(l.length:Int)):ix l i=l[i.toNat]'(by omega):=by
 have:i.toNat<l.length:=by omega
 simp [ix,this]
abbrev w (n:Int):Int:=IntKind.i64.wrap n
theorem aka {n:Int} (ad:-9223372036854775808≤n) (af:n≤9223372036854775807):w n=n:=Jn n ad af
theorem rj {aU:Type} {v:aU} {G:Prop} (h:(none:Option aU)=some v):G:=by cases h
def acp {α:Type} (f:α→I) (l:List α):I:=.ax (l.map f) l.length .shared
def qk {α:Type} (f:α→List I) (l:List α):I:=.ax (l.flatMap f) l.length .shared
theorem se {α:Type} [Inhabited α] (f:α→I) (l:List α) (n:Int) (h:0≤n∧n<(l.length:Int)):(l.map f).drop (n.toNat*1)=f (ix l n)::(l.drop (n.toNat+1)).map f:=by
 have aY:n.toNat<l.length:=by omega
 rw [ud,←List.map_drop,tn aY,sG,Qf h]
theorem qX {α:Type} [Inhabited α] (f:α→List I) (s:Nat) (ai:∀ x,(f x).length=s):∀ (l:List α) (n:Int),0≤n∧n<(l.length:Int)→(l.flatMap f).drop (n.toNat*s)=f (ix l n)++(l.drop (n.toNat+1)).flatMap f:=by
 have key:∀ (l:List α) (k:Nat) (h:k<l.length),(l.flatMap f).drop (k*s)=f l[k]++(l.drop (k+1)).flatMap f:=by
  intro l
  induction l with
  | nil=>intro k h;simp at h
  | cons x l a_ =>
    intro k h;cases k with
    | zero=>simp
    | succ k =>
      (have av:k<l.length:=by simpa using h);(have e:(k+1)*s=(f x).length+k*s:=by rw [ai,tH,v3,tC]);rw [uo,e,List.drop_length_add_append,a_ k av];rfl
 intro l n h;rw [key l n.toNat (by omega),Qf h]
theorem rz {α:Type} (f:α→List I) (s:Nat) (ai:∀ x,(f x).length=s) (l:List α):(l.flatMap f).length=l.length*s:=by
 induction l with
 | nil=>simp
 | cons x l a_=>rw [uo,sC,a_,ai,List.length_cons,tH,v3,tC]
theorem ady {α:Type} (f:α→I) (l m:List α) (c:hv):I.ax (l.map f++m.map f) (l.length+m.length) c=.ax ((l++m).map f) (l++m).length c:=by
 rw [tj,sC]
theorem Kx {α:Type} (f:α→I) (l:List α) (x:α) (c:hv):I.ax (l.map f++[f x]) (l.length+1) c=.ax ((l++[x]).map f) (l++[x]).length c:=by
 rw [tj,sC];rfl
theorem rK {α:Type} (f:α→List I) (l:List α) (x:α) (c:hv):I.ax (l.flatMap f++f x) (l.length+1) c=.ax ((l++[x]).flatMap f) (l++[x]).length c:=by
 simp [vn]
theorem PC {α:Type} (f:α→List I) (l m:List α) (c:hv):I.ax (l.flatMap f++m.flatMap f) (l.length+m.length) c=.ax ((l++m).flatMap f) (l++m).length c:=by
 simp [vn]
theorem Zq {α:Type} (f:α→I) (l:List α) (n:Int) (h:0≤n∧n≤(l.length:Int)) (c:hv):I.ax ((l.map f).take (n.toNat*1)) n.toNat c=.ax ((l.take n.toNat).map f) (l.take n.toNat).length c:=by
 rw [ud,tf,←ur,tI (by omega)]
theorem QI {α:Type} [Inhabited α] (f:α→I) (l:List α) (n:Int) (h:0≤n∧n<(l.length:Int)) {K:I→Prop} (k:K (f (ix l n))):eK (l.map f) (0+n.toNat*1) K:=by
 have aY:n.toNat<l.length:=by omega
 refine Es (x:=f (ix l n)) ?_ k;rw [tg,ud,sN,sK aY,Qf h];rfl
theorem Q2 {α:Type} (f:α→I) (l:List α) (n:Int) (x:α) (h:0≤n∧n<(l.length:Int)) {K:List I→Prop} (k:K ((l.set n.toNat x).map f)):jk (l.map f) (0+n.toNat*1) (f x) K:=by
 have aY:n.toNat<l.length:=by omega
 refine Gm (by simpa using aY) ?_;rw [tg,ud,←vi];exact k
theorem V4 {a b:Bool} (h:a=true) (k:b=true):(a && b)=true:=by rw [h,k];rfl
theorem p2 {α:Type} {f:α→Bool} {x:α} {l:List α} (h:f x=true) (k:l.all f=true):(x::l).all f=true:=V4 h k
theorem Kf {cs:List I} {d:Nat} (h:cs.all (cj d)=true):cj (d+1) (.agg cs)=true:=h
theorem re {cs:List I} {d:Nat} (h:cs.all (cj d)=true):cj (d+1) (.bU cs)=true:=h
theorem JZ {cs:List I} {d:Nat} (h:cs.all (cj d)=true):cj (d+1) (.tuple cs)=true:=h
theorem Kg {k:FuncId} {a b:List I} {d:Nat} (ad:a.all (cj d)=true) (af:b.all (cj d)=true):cj (d+1) (.func k a b)=true:=V4 ad af
theorem r7 {α:Type} {f:α→I} {d:Nat} (h:∀ x,cj d (f x)=true) (l:List α) (n:Nat) (c:hv):cj (d+1) (.ax (l.map f) n c)=true:=by
 show (l.map f).all (cj d)=true;rw [sR];intro u hu;obtain ⟨x,_,rfl⟩:=sM.1 hu;exact h x
theorem q4 {α:Type} {f:α→List I} {d:Nat} (h:∀ x,(f x).all (cj d)=true) (l:List α) (n:Nat) (c:hv):cj (d+1) (.ax (l.flatMap f) n c)=true:=by
 show (l.flatMap f).all (cj d)=true;rw [sR];intro u hu;obtain ⟨x,_,ak⟩:=vC.1 hu;exact sR.1 (h x) u ak
theorem YN {α:Type} {f:α→I} {d:Nat} (h:∀ x,cj d (f x)=true) (l:List α):(l.map f).all (cj d)=true:=by
 rw [sR];intro u hu;obtain ⟨x,_,rfl⟩:=sM.1 hu;exact h x
theorem lE.cr {P:Program} {k:FuncId} {args:List I} {v:I} (h:lE P k args v) (aB:cj 8 v.cr=true):lE P k args v.cr :=
 ⟨⟨h.1.1,h.1.2.1,fun B U J S w vs ah aN ae=>CallsIn.mono (h.1.2.2 B U J S w vs ah aN ae) fun e w' he=>by
   cases e with
   | returned x=>exact a1.cr he
   | panicked c=>exact he.elim
   | outgrown=>exact he.elim⟩,aB⟩
section
variable {P:Program} {B:Nat} {J:List Nat} {w:World} {U:Nat→Option aH} {S:Nat→Nat→Prop}
theorem a1.aaD {H':List ar} {r:I} {v:Value} {w':World} (h:a1 B U J S w H' r v w'):a1 B U J S w H' r.settle.view.cr v w':=by
 have ad:a1 B U J S w H' r.settle v w':=by
  cases r with
  | ax c n k=>cases k with
    | uniq z=>exact h.settle
    | _=>exact h
  | _=>exact h
 have af:r.settle.cR=true:=by
  cases r with
  | ax c n k=>cases k <;> rfl
  | _=>rfl
 obtain ⟨br,ck,bL,a,b,c,d,e⟩:=ad;exact a1.cr ⟨br,ck,bL,a,b,c,d.view af,aW.b4 (I.dj _)⟩
theorem ahI (et : P.follows .mixedOrders = true) {k : Nat} {f : Func} {c : Code} (aP : P.funcs[k]? = some f) (ag : f.body = some c) (aN : f.name ≠ "runtime.NumGoroutine") {A : dd} (bQ : codeOk A c = true)
  {args:List I} {v:I} (aB:cj 8 v=true)
  (h:c_ P A k 0 none c 0 ⟨args++List.replicate (f.ntmps-args.length) .junk,[]⟩ fun e s=>(e=.normal∨e=.ret)∧∃ vs r,fo P s.H s.T f.results.toList=some vs∧bJ s.H 0 s.H.length 0 8 (hl vs)=some r∧r.settle.view.cr=v):lE P k args v:=by
 refine ⟨⟨bc.refl _ _,⟨f,aP,by simp [ag],aN⟩,fun B U J S w xs ah _ ae=>?_⟩,aB⟩;refine callsIn_of_wp_marks aP ag trivial ?_;have aL:=x6 ah ae f.ntmps;have dy:=(oG ah).1;refine By et c 0 _ _ h bQ Fence.wide _ B w.heap.size J w (hR U) S _ (.inl ⟨rfl,rfl⟩) (fun l a w aO=>aO.elim) aL fun e s av aM w' ai=>?_;obtain ⟨he,vs,r,aj,C0,eG⟩:=av;obtain ⟨b5,c2,a8,aJ,aQ,cg⟩:=ai;have iM:LeavesInM Fence.wide 0 P f aM.tmps (fV B U J S w [] v) aM.defers .returning w':=by
  refine nY (U:=b5) (S:=a8) (J:=c2) (B:=B) (H:=s.H) (lC:=U) (S0:=S) (w0:=w) aM.defers w' cg.M.2.1 cg.M.2.2 (dy.trans aQ) cg.H fun bY dB dq mD mE=>?_
  have bX:a9 .slot b5 c2 a8 bY s.T aM.tmps.toList:=⟨cg.T.len,fun i u v hu ae=>(cg.T.rel i u v hu ae).mono (Ext.refl _) (fun b o h=>⟨h,dq b o h⟩),fun i u v hu ae =>
   (cg.T.own i u v hu ae).mono (Ext.refl _) (fun b o h=>⟨h,dq b o h⟩) fun b ag=>⟨ag,dB b _ ag,fun _ h=>h⟩⟩
  obtain ⟨x,q1,aX⟩:=xJ mE bX aj;have kJ:=xA ah (fun id aE=>by simp at aE) C0 (a1.after aJ mD aX);refine ⟨x,q1,?_⟩;rw [←eG];exact kJ.aaD
 rcases he with rfl | rfl
 ·exact iM
 ·exact iM
end
inductive I9 (rs:List jr) (v:I) (e:cA) (T:List I) (H:List ar):Prop where
 | mk (he:e=.normal∨e=.ret) (vs:List I) (aj:j' H T rs=some vs) (r:I) (aP:bJ H 0 H.length 0 8 (hl vs)=some r) (ae:r.settle.view.cr=v)
theorem q5 {P:Program} (et:P.follows .mixedOrders=true) {k:Nat} {A:dd} {rc:fW} {n:Nat} {ts:List jr} (ao:zE P A k=some (rc,n,ts)) {args T:List I} (bX:args++List.replicate (n-args.length) .junk=T) {v:I} (aB:cj 8 v=true)
  (h:∀ Q:cA→List I→List ar→Prop,(∀ e T H,I9 ts v e T H→Q e T H)→dR P A k 0 none rc T [] Q):lE P k args v:=by
 have h:=h _ fun _ _ _ h=>h;unfold zE at ao;split at ao
 ·rename_i f aP;split at ao
  ·rename_i c ag;split at ao
   ·rename_i G7 Gh ad af aG a6;simp only [Option.some.injEq,Prod.mk.injEq] at ao;obtain ⟨rfl,rfl,rfl⟩:=ao;subst bX;have a0:∀ e s,I9 Gh v e (a7.T s) (a7.H s)→(e=.normal∨e=.ret)∧∃ vs r,fo P s.H s.T f.results.toList=some vs∧bJ s.H 0 s.H.length 0 8 (hl vs)=some r∧r.settle.view.cr=v:=fun e s ⟨cb,vs,Cr,r,b6,er⟩=>by
     exact ⟨cb,vs,r,by rw [xD _ _ a6,Cr],b6,er⟩
    exact ahI et aP ag (by simpa using af) ad aB (m_ a0 (DV aG h))
   ·cases ao
  ·cases ao
 ·cases ao
theorem wp_loop {P:Program} {A:dd} {fn:FuncId} {lo:Nat} {rl:Option Nat} {cD:List Bool} {c:fW} {T VW:List I} {H:List ar} {Q:cA→List I→List ar→Prop} (bX:e0 cD T=VW)
  (h:BH (fun T H Q=>n8 T fun T=>dR P A fn lo rl c T H fun e ba H'=>match e with
   | .normal=>xm (some cD) ba fun ba=>Q .normal ba H'
   | e=>Q e ba H') VW H Q):dR P A fn lo rl (.loop (some cD) c) T H Q:=by
 show xm (some cD) T _;rw [DP];subst bX;exact h
def Qn {α:Type} (f:α→List I):Option α→I
 | none=>.eJ
 | some x=>.bU (f x)
theorem YM {α:Type} {f:α→List I} {d:Nat} (h:∀ x,(f x).all (cj d)=true) (x:Option α):cj (d+1) (Qn f x)=true:=by
 cases x with
 | none=>rfl
 | some x=>exact h x
abbrev qO (n:Int):I:=.int .u8 n
theorem Yq {f:I→Option I}:ec f []=some []:=rfl
theorem Yp {f:I→Option I} {x y:I} {l r:List I} (h:f x=some y) (k:ec f l=some r):ec f (x::l)=some (y::r):=by simp only [ec,h,k,sD]
theorem Ja {P:Program} {k:FuncId} {xs cs bs:List I} {H:List ar} {lo:Nat} {v:I} (ai:xs.map (ir H)=cs) (ag:cs.map I.cr=bs) (aB:cs.all (cj 8)=true) (h:lE P k bs v) (ae:fz v=true):oL P 6 lo (.fn k) xs H v.cr H :=
 call6 (by rw [ai,ag]) (by rw [ai];exact aB) h ae
theorem rA {f:I→I} {x y:I} {l r:List I} (h:f x=y) (k:l.map f=r):(x::l).map f=y::r:=by rw [sG,h,k]
theorem rY {f:I→I}:([]:List I).map f=[]:=rfl
theorem KQ {H:List ar} {k:FuncId} {a b aM au:List I} (ad:a.map (hP H)=aM) (af:b.map (hP H)=au):ir H (.func k a b)=.func k aM au:=by simp only [ir,ad,af]
theorem Jk {H:List ar} {id off:Nat} {cs ds:List I} (ah:H[id]?=some (.cells cs)) (he:((cs.drop off).map I.view).map (ke H)=ds):hP H (.ptr id off)=.bU ds:=by simp only [hP,ah,he]
def IZ {α Lf:Type} (g:Lf→α→Option Lf):List α→Lf→Option Lf
 | [],s=>some s
 | x::l,s=>(g s x).bind fun t=>IZ g l t
theorem Sw {α Lf:Type} {g:Lf→α→Option Lf}:∀ {l:List α} {s t:Lf},IZ g l s=some t→∃ F:Nat→Lf,F 0=s∧F l.length=t∧∀ (i:Nat) (h:i<l.length),g (F i) l[i]=some (F (i+1))
 | [],s,t,h=>⟨fun _=>s,rfl,Option.some.inj h,fun i hi=>absurd hi (by simp)⟩
 | x::l,s,t,h=>by
   obtain ⟨u,ad,af⟩:=qm h;obtain ⟨F,f1,f2,f3⟩:=Sw af;refine ⟨fun i=>match i with | 0=>s | i+1=>F i,rfl,f2,fun i hi=>?_⟩;cases i with
   | zero=>show g s x=some (F 0);rw [f1,ad]
   | succ i=>exact f3 i (by simpa using hi)
def Seq (P:Program) (k:FuncId) (cap:List I) (E:List I):Prop :=
 ∀ (l N:Nat) (rW:Nat→List ar),(∀ i,(rW i).length=N)→l<N →
   (∀ (i:Nat) (h:i<E.length) (Y:List ar),∃ rL,Sem P (.yield l) [E[i]] (rW i++Y) 0 (.bool true) (rW (i+1)++rL)) →
   ∀ Y,∃ rL,Sem P (.fn k) (.yield l::cap) (rW 0++Y) 0 (.tuple []) (rW E.length++rL)
theorem Qi {H X:List ar} (h:H.length≤X.length):bc 0 H X:=⟨h,fun _ h _=>absurd h (by omega)⟩
theorem Zm (X Y:List ar) (c d:ar):((X++[c])++Y).set X.length d=(X++[d])++Y:=by
 rw [sH,List.set_append_right _ _ (sB _)];simp
theorem PQ (X Y:List ar) (c:ar):((X++[c])++Y)[X.length]?=some c:=by
 rw [sH,s_ (sB _)];simp
theorem aiE {α:Type} {P:Program} {A:dd} {fn:FuncId} {rl:Option Nat} {k:FuncId} {cap:List I} {bo:List Nat} {gB cq:Code} {T:List I} {H Oa:List ar} {Q:cA→List I→List ar→Prop} {f:α→I} {L:List α} (ON:Seq P k cap (L.map f))
  (Obj:Nat→List ar) (aV:Obj 0=H) (hlen:∀ i,(Obj i).length=H.length)
  (OM:∀ (i:Nat) (h:i<L.length) (Y:List ar),∃ rL,Sem P (.yield H.length) [f L[i]] ((Obj i++[.loop .ready none fn (T.map I.view) bo gB cq A])++Y) 0 (.bool true) ((Obj (i+1)++[.loop .ready none fn (T.map I.view) bo gB cq A])++rL))
  (g6:inLoop H rl=true) (aN:Obj L.length=Oa) (bp:∀ rL,Q .normal (T.map I.settle) ((Oa++[.dead])++rL)):ov P A fn 0 rl (.func k [] cap) bo gB cq T H Q:=by
 obtain ⟨rL,cm⟩:=ON H.length (H.length+1) (fun i=>Obj i++[.loop .ready none fn (T.map I.view) bo gB cq A]) (fun i=>by simp [hlen]) (by omega) (fun i h Y=>by
  have aY:i<L.length:=by simpa using h
  obtain ⟨rL,aj⟩:=OM i aY Y
  exact ⟨rL,by rw [List.getElem_map];exact aj⟩) []
 subst aN;simp only [sW,List.length_map,aV] at cm;have ao:(Obj L.length).length=H.length:=hlen _;refine ⟨g6,.tuple [],_,.ready,none,fn,T.map I.view,bo,gB,cq,A,cm,by rw [←ao];exact PQ _ _ _,by decide,?_⟩;show Q .normal (T.map I.settle) (((Obj L.length++[ar.loop .ready none fn (T.map I.view) bo gB cq A])++rL).set H.length .dead);rw [←ao,Zm];exact bp rL
end Go.Proofs.YtfakoboiahbhaaaGreat.Ab


namespace Go.Proofs.YtfakoboiahbhaaaGreat.Ab
open Go
theorem aeG {H:List ar} {lo i n d:Nat} {k:FuncId} {a b aM au:List I} (ad:ec (bJ H lo i n d) a=some aM) (af:ec (bJ H lo i n d) b=some au):bJ H lo i n (d+1) (.func k a b)=some (.func k aM au):=by simp only [bJ,ad,af]
theorem aiF {α:Type} {P:Program} {A:dd} {fn:FuncId} {rl:Option Nat} {k:FuncId} {cap:List I} {t:Nat} {bo:List Nat} {gB cq:Code} {T:List I} {H Oa:List ar} {Q:cA→List I→List ar→Prop} {f:α→I} {L:List α} (ON:Seq P k cap (L.map f))
  (Obj:Nat→List ar) (ay:c5 T t=.func k [] cap) (aV:Obj 0=H) (hlen:∀ i,(Obj i).length=H.length)
  (OM:∀ (i:Nat) (h:i<L.length) (Y:List ar),∃ rL,Sem P (.yield H.length) [f L[i]] ((Obj i++[.loop .ready none fn (T.map I.view) bo gB cq A])++Y) 0 (.bool true) ((Obj (i+1)++[.loop .ready none fn (T.map I.view) bo gB cq A])++rL))
  (g6:inLoop H rl=true) (aN:Obj L.length=Oa) (bp:∀ rL,Q .normal (T.map I.settle) ((Oa++[.dead])++rL)):dR P A fn 0 rl (.AM (.sl t) bo gB cq) T H Q:=by
 show hA T t _;rw [iG,ay];exact aiE ON Obj aV hlen OM g6 aN bp
end Go.Proofs.YtfakoboiahbhaaaGreat.Ab


namespace Go.Proofs.YtfakoboiahbhaaaGreat.Ab
open Go
theorem aeC {α:Type} [Inhabited α] (f:α→List I) (s:Nat) (ai:∀ x,(f x).length=s) (l:List α) (n:Int) (h:0≤n∧n<(l.length:Int)) (j:Nat) (aw:j<s):(l.flatMap f)[n.toNat*s+j]?=(f (ix l n))[j]?:=by
 have e:=qX f s ai l n h
 have:(l.flatMap f)[n.toNat*s+j]?=((l.flatMap f).drop (n.toNat*s))[j]?:=by rw [tr]
 rw [this,e,sQ (by rw [ai];exact aw)]
theorem aiv {α:Type} [Inhabited α] (f:α→List I) (s:Nat) (ai:∀ x,(f x).length=s) (l:List α) (n:Int) (h:0≤n∧n<(l.length:Int)) (j:Nat) {v:I} (aw:(f (ix l n))[j]?=some v) {K:I→Prop} (k:K v):eK (l.flatMap f) (0+n.toNat*s+j) K:=by
 refine Es (x:=v) ?_ k;rw [tg,aeC f s ai l n h j (by have:=(sv.1 aw).1;rw [ai] at this;exact this),aw]
theorem aiw {α:Type} [Inhabited α] (f:α→List I) (s:Nat) (ai:∀ x,(f x).length=s) (l:List α) (n:Int) (h:0≤n∧n<(l.length:Int)) {v:I} (aw:(f (ix l n))[0]?=some v) {K:I→Prop} (k:K v):eK (l.flatMap f) (0+n.toNat*s) K :=
 aiv f s ai l n h 0 aw k
theorem aeH {P:Program} {C:b8} {lo id n:Nat} {cap:Option Nat} {o:Oper} {x:Operand} {H:List ar} {cs:List I} {sz:Nat} (aq:o.op=.move x) (bC:lo≤id) (ah:H[id]?=some (.cells cs)) (aN:cs.length=n*sz) (ae:∀ u∈cs,u.view=u) :
  a5 P C lo o 2 [.ref id 0 n cap sz] H=some (.ax cs n (g2 cap n),H.set id .dead):=by
 unfold a5;rw [aq];show eY P lo 2 o.type x H [.ref id 0 n cap sz]=_;unfold eY;simp only [bC,if_true,rowOf,ah,lenOf,tg];have e:cs.map I.view=cs:=(uN (g:=fun u=>u) ae).trans (List.map_id' cs);rw [if_pos (by omega),th,uB (by omega),e];rfl
theorem aeI {P:Program} {C:b8} {lo id n m:Nat} {cap:Option Nat} {o:Oper} {x:Operand} {H:List ar} {cs:List I} {sz:Nat} (aq:o.op=.move x) (bC:lo≤id) (ah:H[id]?=some (.cells cs)) (Dj:n=m) (aN:cs.length=m*sz) (ae:∀ u∈cs,u.view=u) :
  a5 P C lo o 2 [.ref id 0 n cap sz] H=some (.ax cs m (g2 cap m),H.set id .dead):=by
 subst Dj;exact aeH aq bC ah aN ae
theorem ajL {α:Type} {f:α→I} (h:∀ x,(f x).view=f x) (l:List α):∀ u∈l.map f,u.view=u:=fun u hu=>by
 obtain ⟨x,_,rfl⟩:=sM.1 hu;exact h x
end Go.Proofs.YtfakoboiahbhaaaGreat.Ab


namespace Go.Proofs.YtfakoboiahbhaaaGreat.Ab
open Go
theorem JH {n:Int} (h:-9223372036854775808≤n∧n≤9223372036854775807):w n=n:=aka h.1 h.2
theorem sm (i:Nat) (h:i≤9223372036854775806):w ((i:Int)+1)=((i+1:Nat):Int):=rJ i h
theorem Kc {i n:Nat} {aU:Type} {x y:Option aU} (h:i<n):(if (decide ((i:Int)<(n:Int)))=true then x else y)=x:=by rw [if_pos (decide_eq_true (by omega))]
theorem Kb {i n:Nat} {aU:Type} {x y:Option aU} (h:¬ i<n):(if (decide ((i:Int)<(n:Int)))=true then x else y)=y:=by rw [if_neg (by rw [decide_eq_true_eq];omega)]
theorem H5 {i n:Nat} {aU:Type} {x:Option aU} (h:i<n):qg (0≤(i:Int)∧(i:Int)<(n:Int)) x=x:=qz ⟨by omega,by omega⟩
end Go.Proofs.YtfakoboiahbhaaaGreat.Ab


namespace Go.Proofs.YtfakoboiahbhaaaGreat.Ab
open Go
def p0 (p:Int×Int):List I:=[hW p.1,hW p.2]
theorem qv (p:Int×Int):(p0 p).length=2:=rfl
theorem Xn {α:Type} (f:α→List I) (s:Nat) (ai:∀ x,(f x).length=s):∀ (l:List α) (k:Nat),k≤l.length→(l.flatMap f).drop (k*s)=(l.drop k).flatMap f
 | l,0,_=>by rw [vN,th,th]
 | [],k+1,h=>absurd h (by simp)
 | x::l,k+1,h=>by
   (have e:(k+1)*s=(f x).length+k*s:=by rw [ai,tH,v3,tC]);rw [uo,e,List.drop_length_add_append,Xn f s ai l k (by simpa using h),List.drop_succ_cons]
theorem Xp {α:Type} (f:α→List I) (s:Nat) (ai:∀ x,(f x).length=s):∀ (l:List α) (k:Nat),k≤l.length→(l.flatMap f).take (k*s)=(l.take k).flatMap f
 | l,0,_=>by rw [vN,tD,tD];rfl
 | [],k+1,h=>absurd h (by simp)
 | x::l,k+1,h=>by
   (have e:(k+1)*s=(f x).length+k*s:=by rw [ai,tH,v3,tC]);rw [uo,e,List.take_length_add_append,Xp f s ai l k (by simpa using h),vo,uo]
theorem NP {α:Type} (f:α→List I) (s:Nat) (ai:∀ x,(f x).length=s) (l:List α) (n:Int) (h:0≤n∧n≤(l.length:Int)) (c:hv):I.ax ((l.flatMap f).take (n.toNat*s)) n.toNat c=.ax ((l.take n.toNat).flatMap f) (l.take n.toNat).length c:=by
 rw [Xp f s ai l _ (by omega),tf,tI (by omega)]
theorem QQ {α:Type} (f:α→List I) (s:Nat) (ai:∀ x,(f x).length=s) (l:List α) (n:Int) (h:0≤n∧n≤(l.length:Int)) (c:hv):I.ax (((l.flatMap f).drop (n.toNat*s)).take ((l.length-n.toNat)*s)) (l.length-n.toNat) c=.ax ((l.drop n.toNat).flatMap f) (l.drop n.toNat).length c:=by
 rw [Xn f s ai l _ (by omega),uh,uB (by rw [rz f s ai,uh];exact sB _)]
theorem Xf (k:IntKind):∀ (xs ys:List Int),xs.length=ys.length→dM (xs.map (.int k)) (ys.map (.int k))=some (decide (xs=ys))
 | [],[],_=>rfl
 | x::xs,y::ys,h=>by
   simp only [sG,dM,if_true,Xf k xs ys (by simpa using h),sD];congr 1;by_cases ak:x=y <;> by_cases ao:xs=ys <;> simp [ak,ao]
 | [],y::ys,h=>by cases h
 | x::xs,[],h=>by cases h
theorem acr {P:Program} {t e:TypeId} {len:Nat} {kd:IntKind} (k:IntKind) (ad:P.underlying t=some (.array len e)) (af:P.underlying e=some (.int kd)) (aG:bD P e=some 1) (a6:P.eqGuardType P.depth t=false) {xs ys:List Int} (ak:xs.length=len) (aZ:ys.length=len) :
  fq P .eql t (.agg (xs.map (.int k))) (.agg (ys.map (.int k)))=some (.bool (decide (xs=ys))):=by
 unfold fq;simp only [ad,af,aG];rw [if_pos ⟨by simp [ak],by simp [aZ],a6⟩,Xf k xs ys (by rw [ak,aZ]),sD]
theorem ahm {P:Program} {C:b8} {lo:Nat} {o:Oper} {op:BinOp} {t u:TypeId} {a b:Operand} {x y v:I} {H:List ar} (aq:o.op=.binOp op t a b u) (aN:iR b=false) (h:fq P op t x y=some v):a5 P C lo o 0 [x,y] H=some (v,H):=by
 unfold a5;rw [aq];show (cx P o [x,y]).map _=_;unfold cx;rw [aq];simp only [aN];show (fq P op t x y).map _=_;rw [h];rfl
end Go.Proofs.YtfakoboiahbhaaaGreat.Ab


namespace Go.Proofs.YtfakoboiahbhaaaGreat.Ab
open Go
section
variable {P:Program} {B N:Nat} {J:List Nat} {w:World} {H:List ar} {U:Nat→Option aH} {S:Nat→Nat→Prop}
theorem ake (et:P.follows .mixedOrders=true) {l lo:Nat} {fn:FuncId} {T ba:List I} {bo:List Nat} {gB cq:Code} {an:dd} {args:List I} {H':List ar} {id:Nat}
  (ao:H[l]?=some (.loop .ready none fn T bo gB cq an)) (eG:iq bo args T=some ba) (Jd:bc lo H H')
  (h:c_ P an fn lo (some l) gB 0 ⟨ba,H⟩ fun e s1=>e=.normal∧s1.H[l]?=some (.loop .ready none fn T bo gB cq an) ∧
   c_ P an fn lo (some l) cq 0 ⟨s1.T,s1.H.set l (.loop .busy none fn T bo gB cq an)⟩ fun e s2=>e=.exit id∧s2.H[l]?=some (.loop .busy none fn T bo gB cq an)∧lD (s2.H.set l (.loop .done (some (.exit id)) fn T bo gB cq an)) H') :
  Sem P (.yield l) args H lo (.bool false) H':=by
 refine ⟨Jd,fun B U J S w xs b ah _ ae ag=>?_⟩;obtain ⟨a',bb,au,L,aC,aI,aR,bl,bd,bg,c',dv,dV,gz,BK⟩:=ah.obj l _ ao;rw [ag] at aC;cases aC;have cC:=A8 bo args T ba xs L.tmps.toList eG ae.len (by simpa using c'.symm);obtain ⟨cb,b6,er,iF⟩:=cC;refine ⟨L,aR,by rw [←ae.len,←cb,←dV];simp,?_⟩;refine roundIn_of_wpIn trivial ?_;have xb:(i_ L xs).toList=(bo.zip xs).foldl (fun (l:List Value) (p:Nat×Value)=>l.set p.1 p.2) L.tmps.toList:=by rw [E_,dV]
 obtain ⟨dy,gF⟩:=Gg bo ah;have aL:cw B w.heap.size (ji bo U) J S w ⟨ba,H⟩ { tmps:=i_ L xs,defers:=[] }:=by
  refine ⟨?_,gF,sB _,fun d a3=>by simp at a3,List.Pairwise.nil⟩;simp only [xb];have key:∀ (i:Nat) (u:I) (x:Value),ba[i]?=some u→((bo.zip xs).foldl (fun (l:List Value) (p:Nat×Value)=>l.set p.1 p.2) L.tmps.toList)[i]?=some x →
    Rel J S w u x∧aW (ji bo U) J S w (.slot i) u x:=fun i u x hu ak=>by
   rcases iF i u x hu ak with ⟨aJ,aQ⟩ | ⟨j,aJ,aQ,cp⟩
   ·obtain ⟨bS,bZ⟩:=dv i u x aJ (by simpa using aQ);exact ⟨bZ,aW.b4 bS⟩
   ·exact ⟨ae.rel j u x aQ cp,(ae.own j u x aQ cp).mono (Ext.refl J) (fun _ _ h=>⟨h,rfl⟩) fun b ag=>⟨by simp [ji,ag,aJ],rfl,fun _ h=>h⟩⟩
  exact ⟨by rw [b6,er,←c'];simp,fun i u x hu ak=>(key i u x hu ak).1,fun i u x hu ak=>(key i u x hu ak).2⟩
 rw [gz,BK];refine By et gB 0 _ _ h a' _ _ B w.heap.size J w (ji bo U) S _ (.inr ⟨l,b,rfl,ag,rfl⟩) (fun l a w aO=>aO) aL fun e1 s1 av aC bH ai=>?_;obtain ⟨rfl,jO,af⟩:=av;obtain ⟨b5,c2,a8,aJ,aQ,cg⟩:=ai;have gG:c2[l]?=some b:=aJ _ _ ag;obtain ⟨_,_,au,oN,d1,d2,d3,d4,d5,_⟩:=cg.H.obj l _ jO;rw [gG] at d1;cases d1;obtain ⟨ep,Cx⟩:=cg.loop jO gG d3 .busy none;have CK:(Instr.beginRound b).run P bH=.ok () (bH.putObj b (.loop { oN with state:=.busy,pending:=none })):=by
  rw [run_beginRound d3 d4]
  have:({ oN with state:=.busy,pending:=none }:Loop)={ oN with state:=.busy }:=by rw [←d5]
  rw [this]
 refine ⟨_,CK,?_⟩;refine wpIn_mono (Q:=fun cX aM w'=>(∀ t,cX≠Exit.goto t)∧roundPost P b (fV B U J S w H' (.bool false)) cX aM w') ?_ (fun e a w h=>h.2);refine By et cq 0 _ _ af bb _ _ B w.heap.size c2 _ b5 a8 _ (.inr ⟨l,b,rfl,gG,rfl⟩) (fun l a w aO=>aO.1 l rfl) Cx fun ca s2 av aI bY ai=>?_;obtain ⟨rfl,gg,nE⟩:=av;obtain ⟨br,ck,bL,cp,mF,yR⟩:=ai;have gH:ck[l]?=some b:=cp _ _ gG;obtain ⟨_,_,au,jo,f1,f2,f3,f4,f5,_⟩:=yR.H.obj l _ gg;rw [gH] at f1;cases f1;have lY:bj U S w br bL bY:=((dy.trans aQ).trans ep).trans mF;refine ⟨fun t ay=>(by cases ay),?_⟩;refine ⟨_,_,run_endRound (some (.exit id)) f3,?_⟩;obtain ⟨Ck,Cy⟩:=yR.loop gg gH f3 .done (some (.exit id));exact a1.o8 nE ⟨br,ck,bL,aJ.trans cp,lY.trans Ck,Cy.H,.bool _,aW.b4 rfl⟩
theorem aiS (et:P.follows .mixedOrders=true) {l lo:Nat} {fn:FuncId} {T ba:List I} {bo:List Nat} {gB cq:Code} {an:dd} {args:List I} {H':List ar} {id:Nat} {oe og:fW}
  (cc:ej P an gB 0=some oe) (ag:ej P an cq 0=some og)
  (ao:H[l]?=some (.loop .ready none fn T bo gB cq an)) (eG:iq bo args T=some ba) (Jd:bc lo H H')
  (h:dR P an fn lo (some l) oe ba H fun e fX H1=>e=.normal∧H1[l]?=some (.loop .ready none fn T bo gB cq an) ∧
   dR P an fn lo (some l) og fX (H1.set l (.loop .busy none fn T bo gB cq an)) fun e dU a4=>e=.exit id∧a4[l]?=some (.loop .busy none fn T bo gB cq an)∧lD (a4.set l (.loop .done (some (.exit id)) fn T bo gB cq an)) H') :
  Sem P (.yield l) args H lo (.bool false) H' :=
 ake et ao eG Jd (m_ (fun e s a0=>⟨a0.1,a0.2.1,DV ag a0.2.2⟩) (DV cc h))
end
theorem U8 (X Y:List ar) (a b d:ar):(((X++[a])++Y)++[b]).set X.length d=(((X++[d])++Y)++[b]):=by
 rw [List.set_append_left _ _ (by simp),Zm]
theorem PR (X Y:List ar) (a b:ar):(((X++[a])++Y)++[b])[X.length]?=some a:=by
 rw [sQ (by simp),PQ]
theorem aex (X:List ar) (b:ar):lD (X++[b]) (X++[.dead]):=by
 refine ⟨by simp,fun id o h=>?_⟩;rcases tq id X.length with ao | ao
 ·rw [sQ ao] at h ⊢;exact .inr h
 ·rw [s_ ao] at h;cases av:id-X.length with
  | zero=>rw [av] at h;simp at h;exact .inl h.symm
  | succ k=>rw [av] at h;simp at h
theorem aey (X Y:List ar) (a b:ar):lD (((X++[a])++Y)++[b]) ((X++[a])++(Y++[.dead])):=by
 rw [←sH];exact aex _ b
end Go.Proofs.YtfakoboiahbhaaaGreat.Ab


namespace Go.Proofs.YtfakoboiahbhaaaGreat.Ab
open Go
theorem aak {α:Type} {f:α→I} (h:∀ x,(f x).view=f x) (l:List α):(l.map f).map I.view=l.map f:=by rw [uE];exact uN fun x _=>h x
theorem X_ {α:Type} (f:α→I) (l:List α) {n:Nat} (aP:∀ x,(f x).view=f x) (h:l.length=n):(((l.map f).drop 0).take n).map I.view=l.map f:=by
 rw [th,uB (by simp [h]),aak aP]
theorem acs {P:Program} {t e:TypeId} {len:Nat} {kd k:IntKind} {xs:List Int} {n:Int} (ad:P.underlying t=some (.array len e)) (af:P.underlying e=some (.int kd)) (aG:bD P e=some 1) (a6:dJ P e=false) (ao:xs.length=len) (aN:0≤n∧n<(len:Int)) :
  oQ P t (.agg (xs.map hW)) (.int k n)=some (hW (ix xs n)):=by
 unfold oQ;have bM:gY n len=some n.toNat:=by unfold gY;rw [if_pos aN]
 simp only [ad,aG,bM,sx,ud];unfold iA;simp only [af,a6];have aS:n.toNat<xs.length:=by omega
 rw [sN,sK aS,sD,Qf (by omega)]
theorem ahn {P:Program} {C:b8} {lo:Nat} {o:Oper} {t:TypeId} {a b:Operand} {x y v:I} {H:List ar} (aq:o.op=.index t a b) (h:oQ P t x y=some v) (ae:v.view=v:=by rfl):a5 P C lo o 0 [x,y] H=some (v,H):=by
 unfold a5;rw [aq];show (cx P o [x,y]).map _=_;unfold cx;rw [aq];show ((oQ P t x y).map I.view).map _=_;rw [h,sD,sD,ae]
theorem YC {P:Program} {C:b8} {lo:Nat} {o:Oper} {t e:TypeId} {a:Operand} {id len:Nat} {H:List ar} (aq:o.op=.slice t a none none none) (ad:P.underlying t=some (.array len e)) (af:bD P e=some 1) (aV:0<len):a5 P C lo o 0 [.ptr id 0] H=some (.ref id 0 len (some len) 1,H):=by
 unfold a5;rw [aq];show (cx P o [.ptr id 0]).map _=_;unfold cx;rw [aq];show (ek P t none none none [.ptr id 0]).map _=_;unfold ek;simp only [I.view,e2,ad,af,dr,cH,sx];rw [if_neg (by omega)];rfl
theorem OT {P:Program} {C:b8} {lo mode:Nat} {o:Oper} {xs:Array Operand} {ts:Array TypeId} {vs:List I} {H:List ar} (aq:o.op=.call { callee:=.builtin .clear,args:=xs,argTypes:=ts }):a5 P C lo o mode vs H=k4 P lo ts H vs:=by
 unfold a5;rw [aq];rfl
theorem Y6 (z:I):∀ n:Nat,e8 n [z]=List.replicate n z
 | 0=>rfl
 | n+1=>by rw [e8,Y6 z n];rfl
theorem W4 {P:Program} {lo id n:Nat} {H:List ar} {l:List Int} {cap:Option Nat} {e:TypeId} {ts:Array TypeId} (e1:(ts[0]?).bind P.underlying=some (.slice e)) (ca:bD P e=some 1) (dx:zeroCells P e=some [.int .i64 0]) (bC:lo≤id)
  (ah:H[id]?=some (.cells (l.map hW))) (aN:l.length=n):k4 P lo ts H [.ref id 0 n cap 1]=some (.tuple [],H.set id (.cells ((List.replicate n (0:Int)).map hW))):=by
 have lV:setCells 0 (e8 n [I.int .i64 0]) (l.map hW)=(List.replicate n (0:Int)).map hW:=by
  apply ui;intro j;rw [m5 _ _ _ _ (by rw [ik];simp;omega),ik,Y6];simp only [List.length_singleton,ud,tg,Nat.sub_zero];by_cases aw:j<n
  ·rw [if_pos ⟨by omega,aw⟩];simp [aw]
  ·rw [if_neg (by omega),ub (by simp;omega),ub (by simp;omega)]
 unfold k4;simp only [e1,ca,dx,hg,ah,sD,if_pos bC];rw [if_pos ⟨trivial,rfl,by decide⟩,if_pos (by simp;omega),lV];rfl
end Go.Proofs.YtfakoboiahbhaaaGreat.Ab


namespace Go.Proofs.YtfakoboiahbhaaaGreat.Ab
open Go
def LI:List I→Nat→List (Nat×I)→List I
 | [],_,_=>[]
 | x::T,_,[]=>x::T
 | x::T,i,(j,v)::r=>match Nat.beq i j with
   | true=>v::LI T (i+1) r
   | false=>x::LI T (i+1) ((j,v)::r)
def IP (u:Nat→I):Nat→Nat→List (Nat×I)→List I
 | 0,_,_=>[]
 | n+1,i,[]=>u i::IP u n (i+1) []
 | n+1,i,(j,v)::r=>match Nat.beq i j with
   | true=>v::IP u n (i+1) r
   | false=>u i::IP u n (i+1) ((j,v)::r)
def qQ (n:Nat) (bo:List (Nat×I)) (T:List I):Prop:=T.length=n∧T=LI T 0 bo
theorem QR {u bG:Nat→I}:∀ (n i:Nat) (bo:List (Nat×I)),(∀ k,i≤k→u k=bG k)→IP u n i bo=IP bG n i bo
 | 0,_,_,_=>rfl
 | n+1,i,[],h=>by
   rw [IP,IP,h i (sB _),QR n (i+1) [] fun k av=>h k (by omega)]
 | n+1,i,(j,v)::r,h=>by
   rw [IP,IP];cases Nat.beq i j with
   | true=>exact congrArg _ (QR n (i+1) r fun k av=>h k (by omega))
   | false=>show u i::_=bG i::_;rw [h i (sB _),QR n (i+1) _ fun k av=>h k (by omega)]
theorem Zr:∀ (T:List I) (i:Nat) (bo:List (Nat×I)),LI T i bo=IP (fun k=>c5 T (k-i)) T.length i bo
 | [],_,_=>rfl
 | x::T,i,bo=>by
   have e:∀ bo,IP (fun k=>c5 (x::T) (k-i)) T.length (i+1) bo=LI T (i+1) bo:=fun bo=>by
    rw [Zr T (i+1) bo];refine QR _ _ _ fun k av=>?_;show c5 (x::T) (k-i)=c5 T (k-(i+1));rw [show k-i=(k-(i+1))+1 by omega];rfl
   (have f':c5 (x::T) (i-i)=x:=by rw [Nat.sub_self];rfl);(have aer:∀ (T:List I) i,LI T i []=T:=fun T i=>by cases T <;> rfl);cases bo with
   | nil =>
     show x::T=IP _ (T.length+1) i [];rw [IP,f',e,aer]
   | cons p r =>
     obtain ⟨j,v⟩:=p;show LI (x::T) i ((j,v)::r)=IP _ (T.length+1) i ((j,v)::r);rw [LI,IP];cases Nat.beq i j with
     | true=>exact congrArg _ (e r).symm
     | false=>show x::_=_::_;rw [f',e]
theorem qQ.ex {n:Nat} {bo:List (Nat×I)} {T:List I} (h:qQ n bo T):∃ u,T=IP u n 0 bo:=by
 obtain ⟨ad,af⟩:=h;subst ad;exact ⟨_,af.trans (Zr T 0 bo)⟩
class HZ (d:Nat) (v:I):Prop where Qp:cj d v=true
class qw (d:Nat) (l:List I):Prop where pl:l.all (cj d)=true
instance {d:Nat}:qw d []:=⟨rfl⟩
instance {d:Nat} {v:I} {l:List I} [a:HZ d v] [b:qw d l]:qw d (v::l):=⟨p2 a.Qp b.pl⟩
instance {d:Nat} {a b:List I} [x:qw d a] [y:qw d b]:qw d (a++b):=⟨by rw [List.all_append,x.pl,y.pl];rfl⟩
instance {d:Nat} {α:Type} {f:α→I} {l:List α} [h:∀ x,HZ d (f x)]:qw d (l.map f):=⟨YN (fun x=>(h x).Qp) l⟩
instance {d:Nat} {α:Type} {f:α→List I} {l:List α} [h:∀ x,qw d (f x)]:qw d (l.flatMap f):=⟨by
 rw [sR];intro u hu;obtain ⟨x,_,ak⟩:=vC.1 hu
 exact sR.1 (h x).pl u ak⟩
instance {d:Nat} {k:IntKind} {n:Int}:HZ (d+1) (.int k n):=⟨rfl⟩
instance {d:Nat} {b:Bool}:HZ (d+1) (.bool b):=⟨rfl⟩
instance {d:Nat} {b:ByteArray}:HZ (d+1) (.str b):=⟨rfl⟩
instance {d:Nat}:HZ (d+1) .eJ:=⟨rfl⟩
instance {d n:Nat} {c:hv} {l:List I} [h:qw d l]:HZ (d+1) (.ax l n c):=⟨h.pl⟩
instance {d:Nat} {l:List I} [h:qw d l]:HZ (d+1) (.agg l):=⟨h.pl⟩
instance {d:Nat} {l:List I} [h:qw d l]:HZ (d+1) (.tuple l):=⟨h.pl⟩
instance {d:Nat} {l:List I} [h:qw d l]:HZ (d+1) (.bU l):=⟨h.pl⟩
instance {d:Nat} {α:Type} {f:α→I} {l:List α} [h:∀ x,HZ d (f x)]:HZ (d+1) (acp f l):=⟨YN (fun x=>(h x).Qp) l⟩
instance {d:Nat} {α:Type} {f:α→List I} {l:List α} [h:∀ x,qw d (f x)]:HZ (d+1) (qk f l):=⟨(inferInstance:qw d (l.flatMap f)).pl⟩
instance {d:Nat} {l:List Int}:HZ (d+2) (oN l):=⟨(inferInstance:qw (d+1) (l.map hW)).pl⟩
instance {d:Nat} {l:List (List Int)}:HZ (d+3) (jo l):=⟨(inferInstance:qw (d+2) (l.map oN)).pl⟩
instance {d:Nat} {α:Type} {f:α→List I} {x:Option α} [h:∀ x,qw d (f x)]:HZ (d+1) (Qn f x):=⟨YM (fun x=>(h x).pl) x⟩
theorem qx {p KM:Prop} [Decidable p] {aU:Type} {k:Option aU} {v:aU} {K:Prop} (h:qg p k=some v) (f:p→KM) (g:p→k=some v→K):KM∧K :=
 ⟨f (qC h).1,g (qC h).1 (qC h).2⟩
theorem bs {b:Bool} {aU:Type} {x y:Option aU} {v:aU} {K:Prop} (h:(if b=true then x else y)=some v) (f:b=true→x=some v→K) (g:b=false→y=some v→K):K :=
 match b,h,f,g with
 | true,h,f,_=>f rfl (Hm rfl h)
 | false,h,_,g=>g rfl (Hl rfl h)
theorem ahE {d:Nat} {u:I} (h:cj d u.g0=true):cj d u=true:=by
 cases d with
 | zero=>simp [cj] at h
 | succ d=>cases u with
   | ax cs n c=>cases c <;> exact h
   | _=>exact h
theorem YL {d:Nat} {l:List I} (h:(l.map I.g0).all (cj d)=true):l.all (cj d)=true:=by
 rw [sR] at h ⊢;exact fun u hu=>ahE (h _ (List.mem_map_of_mem hu))
theorem ahD {d:Nat} {r:I} (h:cj d r.settle.view.cr=true):cj d r=true:=by
 cases d with
 | zero=>simp [cj] at h
 | succ d=>cases r with
   | ax cs n c=>cases c <;> exact h
   | agg cs=>exact YL (l:=cs) h
   | tuple cs=>exact YL (l:=cs) h
   | raw=>exact absurd h (by simp [I.settle,I.view,I.cr,cj])
   | cl=>exact absurd h (by simp [I.settle,I.view,I.cr,cj])
   | _=>exact h
theorem LG {rs:List jr} {v:I} {T:List I} {H:List ar} {vs:List I} [h:HZ 8 v] (ad:j' H T rs=some vs) (af:(hl vs).settle.view.cr=v):I9 rs v .ret T H :=
 ⟨.inr rfl,vs,ad,_,o' (ahD (af ▸ h.Qp)),af⟩
end Go.Proofs.YtfakoboiahbhaaaGreat.Ab


namespace Go.Proofs.YtfakoboiahbhaaaGreat.Ab
open Go
section
variable {P:Program} {A:dd} {fn:FuncId} {lo:Nat} {rl:Option Nat}
inductive alU (P:Program) (A:dd) (fn:FuncId) (lo:Nat) (rl:Option Nat) (rc:fW) (T:List I) (H:List ar) (Q:cA→List I→List ar→Prop):Prop where
 | mk (cD:List Bool) (c:fW) (he:rc=.loop (some cD) c) (hW:Nat→List I→List ar→Prop) (m:Nat) (hm:m≤qc) (aV:hW m T H)
   (step:∀ (r1:List I→List ar→Prop) m T H,hW m T H→(∀ hd ba H',hd<m→hW hd ba H'→r1 ba H')→n8 T fun T=>dR P A fn lo rl c T H fun e ba H'=>match e with
    | .normal=>xm (some cD) ba fun ba=>r1 ba H'
    | e=>Q e ba H')
end
theorem akf {P:Program} {A:dd} {fn lo:Nat} {rl:Option Nat} {c:fW} {T:List I} {H:List ar} {Q:cA→List I→List ar→Prop} (h:dR P A fn lo rl c T (H++[]) Q):dR P A fn lo rl c T H Q:=by
 rw [sW] at h;exact h
theorem TN {cs:List I} {n d:Nat} {c:hv} (h:cs.all (cj d)=true):cj (d+1) (.ax cs n c)=true:=h
theorem WQ (A Y C:List ar):(A++Y)++C=A++(Y++C):=sH _ _ _
theorem Na (X:List ar) (a:ar):(X++[a,.dead])[X.length]?=some a:=by simp
theorem Zl (X:List ar) (a aM:ar):(X++[a,.dead]).set X.length aM=X++[aM,.dead]:=by simp
theorem Xt {P:Program} {C:b8} {lo id gid n z:Nat} {o:Oper} {x:Operand} {H:List ar} {l:List I} {g cT:Nat} (aq:o.op=.move x) (bC:lo≤id) (ah:H[id]?=some (.grow l g cT)) (aN:l.length=n*z) :
  a5 P C lo o 2 [.cl id gid n z] H=some (.ax (l.map I.view) n .shared,H.set id .dead):=by
 unfold a5;rw [aq];show eY P lo 2 o.type x H [.cl id gid n z]=_;unfold eY;simp only [bC,if_true,ah];rw [if_pos aN]
def aiL (l:List Int):I:=.ax (l.map hW) l.length (if l.length=1 then .full else .shared)
theorem Rel.rows {J:List Nat} {S:Nat→Nat→Prop} {w:World} {cells:List I} {n:Nat} {v:Value} (h:Rel J S w (.ax cells n .shared) v):Rel J S w (.ax (cells.map I.g0) n .shared) v:=by
 cases h with
 | b2 _ a=>exact .b2 _ a
 | ax _ _ _ b o cap f al hle hu k eX =>
   refine .ax _ _ _ b o cap f al hle hu (fun j u aw=>?_) (fun j u aw=>?_)
   ·rw [sN] at aw;simp only [su] at aw;obtain ⟨x,ak,rfl⟩:=aw;obtain ⟨aC,aI,aR,bl⟩:=k j x ak;exact ⟨aC,aI,yA aR,bl⟩
   ·rw [sN] at aw;simp only [su] at aw;obtain ⟨x,ak,rfl⟩:=aw;exact (eX j x ak).g0
theorem lE.rows {P:Program} {k:FuncId} {args cells:List I} {n:Nat} (h:lE P k args (.ax cells n .shared)) (aB:cj 8 (.ax (cells.map I.g0) n .shared)=true):lE P k args (.ax (cells.map I.g0) n .shared) :=
 ⟨⟨h.1.1,h.1.2.1,fun B U J S w vs ah aN ae=>CallsIn.mono (h.1.2.2 B U J S w vs ah aN ae) fun e w' he=>by
   cases e with
   | returned x =>
     obtain ⟨br,ck,bL,a,b,c,d,e⟩:=he;exact ⟨br,ck,bL,a,b,c,d.rows,aW.b4 rfl⟩
   | panicked c=>exact he.elim
   | outgrown=>exact he.elim⟩,aB⟩
end Go.Proofs.YtfakoboiahbhaaaGreat.Ab


namespace Go.Proofs.YtfakoboiahbhaaaGreat.Ab
open Go
instance {d:Nat} {p:Int×Int}:qw (d+1) (p0 p):=⟨(inferInstance:qw (d+1) [hW p.1,hW p.2]).pl⟩
instance {d:Nat} {l:List Int}:HZ (d+2) (aiL l):=⟨(inferInstance:qw (d+1) (l.map hW)).pl⟩
end Go.Proofs.YtfakoboiahbhaaaGreat.Ab


namespace Go.Proofs.YtfakoboiahbhaaaGreat.Ab
open Go
abbrev qt:=List Int
abbrev p8:=List (Int×Int)
abbrev Ku:=List (List Int)
abbrev qh:=List (List (Int×Int))
abbrev qn:=Int×List (Int×Int)
abbrev rf:=cA→List I→List ar→Prop
abbrev qJ (l:List Int) (c:hv):I:=.ax (l.map hW) l.length c
abbrev p4 (l:List (Int×Int)) (c:hv):I:=.ax (l.flatMap p0) l.length c
abbrev alW (b:Int×List (Int×Int)):I:=.agg [hW b.1,.ax (b.2.flatMap p0) b.2.length .shared]
abbrev qD (b:Int×List (Int×Int)):ar:=ar.cells [hW b.1,.ax (b.2.flatMap p0) b.2.length .shared]
def qR {aU:Type} (rs:List jr) (Q:cA→List I→List ar→Prop) (e:aU→I) (v:aU):Prop:=∀ T H,I9 rs (e v) .ret T H→Q .ret T H
theorem qi {aU:Type} {x v:aU} {e:aU→I} {rs:List jr} {Q:cA→List I→List ar→Prop} {T:List I} {H:List ar} {vs:List I} (h:some x=some v) (jD:qR rs Q e v) [k:HZ 8 (e x)] (ad:j' H T rs=some vs) (af:(hl vs).settle.view.cr=e x):Q .ret T H:=by
 obtain rfl:=Option.some.inj h;exact jD _ _ (LG ad af)
class qy (H:List ar) (i:Nat) (o:outParam ar):Prop where h:H[i]?=some o
instance {H:List ar} {o:ar}:qy (H++[o]) H.length o:=⟨JU _ _⟩
instance {H:List ar} {i:Nat} {o p:ar} [k:qy H i o]:qy (H++[p]) i o:=⟨qY k.h⟩
end Go.Proofs.YtfakoboiahbhaaaGreat.Ab


namespace Go.Proofs.YtfakoboiahbhaaaGreat.Ab
open Go Go.ChangeShapes Go.WideShapes Go.ChangeAt Go.RowKit
def S0 (w:World):Nat→Nat→Prop:=fun b o=>∃ v,w.cell? ⟨b,o,none⟩=some v
theorem mq (w:World):aK w.heap.size (fun _=>none) [] (S0 w) w [] :=
 ⟨rfl,fun _ _ h=>by simp at h,fun _ _ h=>h,fun _ _ h=>by simp at h,sB _⟩
theorem ajG {P:Program} {k:FuncId} {args:List I} {vs:List Value} {W:World} {b:Bool} (h:lE P k args (.bool b)) (ae:a9 (fun i=>.arg i) (fun _=>none) [] (S0 W) W args vs) :
  Calls P k vs.toArray W fun e Jq=>e=.returned (.bool b)∧Below W.heap.size W Jq:=by
 have ad:=h.1.2.2 W.heap.size (fun _=>none) [] (S0 W) W vs (mq W) (fun _ _ h=>by simp at h) ae;refine (callsIn_wide.1 ad).mono fun e Jq he=>?_;cases e with
 | returned v =>
   obtain ⟨az,bV,S',_,aA,_,aj,_⟩:=he;cases aj;exact ⟨rfl,aA.os,aA.tape,aA.output,aA.size,fun b ag=>aA.cD b ag rfl⟩
 | panicked c=>exact he.elim
 | outgrown=>exact he.elim
section
variable {H:Type} {enc:TypeId×Value→H} {P:Program} {w:World}
theorem V0 {W Jq:World} (K:Kids P (·<P.types.size)) (bP:∀ t e,t<P.types.size→P.underlying t=some (.slice e)→0<P.cellsOf e) (p5:Below W.heap.size W Jq) {sp:Nat→Bool} :
  ∀ {ts:List TypeId} {vs:List Value} {ds:List (DataW H)} {p:List MemPlace},(∀ t∈ts,t<P.types.size)→DataW.TrodAll enc P W 0 (fun _=>true) true ts vs ds p→(∀ x∈p,sp x.block=true)→(∀ x∈p,x.block<W.heap.size)→DataW.TrodAll enc P Jq 0 sp true ts vs ds p
 | [],_,_,_,_,aL,_,_=>by obtain ⟨rfl,rfl,rfl⟩:=trodAll_nil aL;exact trodAll_mk0
 | t::ts,_,_,_,bX,aL,Nl,aS=>by
   obtain ⟨v,vs,d,ds,a,b,rfl,rfl,rfl,⟨n,aN⟩,af⟩:=trodAll_cons aL;refine ⟨a,b,⟨n,?_⟩,V0 K bP p5 (fun t ay=>bX t (uw _ ay)) af (fun x ak=>Nl x (v7 _ ak)) (fun x ak=>aS x (v7 _ ak)),rfl⟩;exact DataW.trod_stays K (fun {t e} ay he=>bP t e ay he) (fun h=>by cases h) (bX t uY) aN (fun x ak=>p5.same (aS x (vE _ ak))) fun x ak=>Nl x (vE _ ak)
theorem ahB {f:Func} {s:ChangeSpec} {again:Bool} {W Jq:World} {args:Array Value} {t:TypeId} {ds gs:List (DataW H)} {before:List MemPlace}
  (ao:laidOutB P=true) (hm:mapsRowed P=true) (bk:((List.range P.types.size).all fun t=>match P.underlying t with | some (.slice e)=>decide (0<P.cellsOf e) | _=>true)=true)
  (ay:f.resultTypes=#[t]) (Lu:P.underlying t=some .bool) (kK:f.params.toList.all (fun t=>decide (t<P.types.size))=true) (Tp:s.vars=[])
  (l6:DataW.Whole enc P f.params.toList s.vars false W args.toList ds gs before) (p5:Below W.heap.size W Jq)
  (ai:s.fn H (ds++gs)={ results:=[.lit (.bool true)],args:=ds }):s.post enc P f false true false again W args (.bool true) Jq:=by
 have aS:=l6.lt;have aeV:=l6;obtain ⟨p,q,aL,jE,rfl,C0,jR⟩:=aeV;rw [Tp] at jE;obtain ⟨rfl,rfl⟩:=trodVars_none jE;rw [sW] at *;have K:Kids P (·<P.types.size):=kids_rows ao hm;have bP:=slices_full_of P bk;have bX:∀ t∈f.params.toList,t<P.types.size:=fun t h=>by
  have:=sR.1 kK t h;simpa using this
 have again:∀ sp:Nat→Bool,(∀ x∈p,sp x.block=true)→DataW.TrodAll enc P Jq 0 sp true f.params.toList args.toList ds p:=fun sp Nl =>
  V0 K bP p5 bX aL Nl aS
 have kM:∀ (b:Nat) (sp:Nat→Bool) (a3:Bool),DataW.TrodAll enc P Jq b sp a3 f.resultTypes.toList ((Value.bool true).resultList f.resultTypes.size) (s.fn H ds).results []:=fun b sp a3=>by
  rw [ai,ay];exact trodAll_mk1 (shut_bool Lu true)
 have CH:∀ sp:Nat→Bool,(∀ x∈p,sp x.block=true)→DataW.TrodAll enc P Jq 0 sp true f.params.toList args.toList (s.fn H ds).args p:=fun sp Nl=>by
  rw [ai];exact again sp Nl
 have ae:∀ sp:Nat→Bool,DataW.TrodVars enc P Jq sp s.vars (s.fn H ds).vars []:=fun sp=>by
  rw [ai,Tp];rfl
 have hold:∀ x∈p,(fun b=>decide (b<W.heap.size)) x.block=true:=fun x ak=>by simpa using aS x ak
 refine ⟨ds,[],p,[],p,[],l6,by rw [sW];exact kM _ _ _,by rw [sW];exact CH _ hold,by rw [sW];exact ae _,p5.frame _,fun _=>?_⟩;refine ⟨fun j u r hu aj=>?_,(s.fn H ds).results++(s.fn H ds).args,[],p,⟨p,[],?_,?_,by simp,?_,fun h=>by cases h⟩,fun x ak _=>ak⟩
 ·rw [ay] at hu aj;cases j with
  | zero=>simp [Value.resultList] at hu aj;subst hu;subst aj;exact okWide_bool_mk Lu true
  | succ j=>simp at hu
 ·have:=trodAll_append (CH (fun _=>true) fun _ _=>rfl) (kM 0 (fun _=>true) true);simpa using this
 ·rw [Tp];rfl
 ·intro b o ag;have:=aS _ ag;rw [p5.frozen (p:=⟨b,o,none⟩) this];exact C0 b o ag
theorem Yr {α:Type} {f:α→I} {R:α→Prop}:∀ {l:List I},(∀ u∈l,∃ x,u=f x∧R x)→∃ gq:List α,l=gq.map f∧∀ x∈gq,R x
 | [],_=>⟨[],rfl,by simp⟩
 | u::l,h=>by
   obtain ⟨x,rfl,ak⟩:=h u (by simp);obtain ⟨gq,rfl,bk⟩:=Yr (l:=l) fun y aZ=>h y (by simp [aZ]);exact ⟨x::gq,rfl,by simpa using ⟨ak,bk⟩⟩
abbrev KW (enc:TypeId×Value→H) (P:Program) (w:World) (e:TypeId) (Q:I→Prop):Prop :=
 ∀ n v y,DataW.trod enc P w 0 (fun _=>true) true n e [v]=some y→∃ u,u.plain=true∧v.oneCell'=true∧Rel [] (S0 w) w u v∧Q u
theorem W3 {e:TypeId} {k:IntKind} (ay:P.underlying e=some (.int k)):KW enc P w e fun u=>∃ x,u=.int k x∧(Lit.int k x).wf=true:=by
 intro n v y h;obtain ⟨x,ak,_,hw⟩:=DataW.trod_int ay h;injection ak with ak _;subst ak;exact ⟨.int k x,rfl,rfl,.int k x,x,rfl,hw⟩
instance:Inhabited I:=⟨.junk⟩
theorem adV {t e:TypeId} (ay:P.underlying t=some (.slice e)) (ce:P.cellsOf e=1) {Q:I→Prop} (he:KW enc P w e Q) :
  KW enc P w t fun u=>∃ l:List I,u=.ax l l.length .shared∧l.length≤maxLen∧∀ u∈l,Q u:=by
 intro fuel v x h;rcases Deep.open_slice1 ay ce h with ⟨ae,_⟩ | ⟨a,len,cap,m,n,V,D,VS,ae,_,ao,hm,pK,_,ak⟩
 ·injection ae with ae _;subst ae;exact ⟨_,rfl,rfl,.b2 _ _,[],rfl,sP _,by simp⟩
 ·injection ae with ae _;subst ae;have pK:m=cap:=pK;have ak:∀ i,i<cap→w.cell? (a.add i)=some (V i)∧DataW.trod enc P w 0 (fun _=>true) true n e [V i]=some (D i,VS i):=fun i hi=>ak i (by omega);by_cases al:cap=0
  ·(subst al;obtain rfl:len=0:=by omega);exact ⟨_,rfl,rfl,.b2 _ _,[],rfl,sP _,by simp⟩
  ·obtain ⟨b,o,sp⟩:=a;have aV:=(ak 0 (by omega)).1;(have ai:sp=none:=by simpa [Addr.add] using World.cell?_spot aV);subst ai;obtain ⟨IW,J9⟩:=Deep.choose_lt (α:=I) (n:=len) (p:=fun i u=>u.plain=true∧(V i).oneCell'=true∧Rel [] (S0 w) w u (V i)∧Q u) fun i hi=>he n (V i) _ (ak i (by omega)).2;refine ⟨.ax ((List.range len).map IW) len .shared,rfl,rfl,.ax _ _ _ b o cap V (by simp) ao (by simp) (fun j u aw=>?_) (fun j u aw=>?_),(List.range len).map IW,by simp,by simp;omega,fun u hu=>?_⟩
   ·(have jL:j<len:=by have:=(sv.1 aw).1;simpa using this);simp [jL] at aw;subst aw;(have bx:w.cell? ⟨b,o+j,none⟩=some (V j):=by have:=(ak j (by omega)).1;rwa [add_lit] at this);exact ⟨⟨_,bx⟩,bx,(J9 j jL).1,(J9 j jL).2.1⟩
   ·(have jL:j<len:=by have:=(sv.1 aw).1;simpa using this);simp [jL] at aw;subst aw;exact (J9 j jL).2.2.1
   ·obtain ⟨j,aw,rfl⟩:=sM.1 hu;exact (J9 j (sX.1 aw)).2.2.2
def Kt (x:Int):Prop := -9223372036854775808≤x∧x≤9223372036854775807
theorem wf_i64 {x:Int} (h:(Lit.int .i64 x).wf=true):Kt x:=by
 have ad:IntKind.i64.min=-9223372036854775808:=rfl;have af:IntKind.i64.max=9223372036854775807:=rfl;simp only [Lit.wf,sO,decide_eq_true_eq] at h;exact ⟨by omega,by omega⟩
theorem wf_u8 {x:Int} (h:(Lit.int .u8 x).wf=true):0≤x∧x≤255:=by
 have ad:IntKind.u8.min=0:=rfl;have af:IntKind.u8.max=255:=rfl;simp only [Lit.wf,sO,decide_eq_true_eq] at h;exact ⟨by omega,by omega⟩
structure aco (l:List Int):Prop where
 n:l.length≤9223372036854775807
 v:∀ x∈l,Kt x
structure alO (l:List (List Int)):Prop where
 n:l.length≤9223372036854775807
 v:∀ r∈l,aco r
theorem Yu {n:Nat} (h:n≤maxLen):n≤9223372036854775807:=by unfold maxLen at h;omega
def RX (l:List Int):I:=.ax (l.map (.int .u8)) l.length .shared
structure VO (l:List Int):Prop where
 n:l.length≤9223372036854775807
 v:∀ x∈l,0≤x∧x≤255
theorem adU {t e:TypeId} (ay:P.underlying t=some (.slice e)) (ce:P.cellsOf e=1) (he:P.underlying e=some (.int .u8)):KW enc P w t fun u=>∃ l,u=RX l∧VO l:=by
 intro n v y h;obtain ⟨u,aC,aI,aR,l,rfl,bl,bd⟩:=adV ay ce (W3 he) n v y h;obtain ⟨gq,rfl,bg⟩:=Yr bd;exact ⟨_,aC,aI,aR,gq,by simp [RX],by simpa using Yu bl,fun x ak=>wf_u8 (bg x ak)⟩
abbrev Arg (enc:TypeId×Value→H) (P:Program) (w:World) (base:Nat) (t:TypeId) (Q:I→Prop):Prop :=
 ∀ v d p,Value.okWide P w .any base t v→DataW.Trod enc P w 0 (fun _=>true) true t v d p→∃ u,u.plain=true∧Rel [] (S0 w) w u v∧Q u
theorem adB {base:Nat} {t e:TypeId} (ay:P.underlying t=some (.slice e)) {Q:I→Prop} (al:KW enc P w t Q):Arg enc P w base t Q:=by
 intro v d p ae ⟨n,a3⟩;obtain ⟨a,len,cap,rfl⟩:=okWide_slice ay ae;obtain ⟨u,aC,_,aR,bl⟩:=al n _ _ a3;exact ⟨u,aC,aR,bl⟩
theorem ajM {us:List I} {vs:List Value} (h:us.length=vs.length) (aj:∀ (i:Nat) (u:I) (v:Value),us[i]?=some u→vs[i]?=some v→u.plain=true∧Rel [] (S0 w) w u v):a9 (fun i=>.arg i) (fun _=>none) [] (S0 w) w us vs :=
 ⟨h,fun i u v hu ae=>(aj i u v hu ae).2,fun i u v hu ae=>aW.b4 (aj i u v hu ae).1⟩
theorem ajN {ya fA:I} {v0 v1:Value} (Nu:ya.plain=true) (hM:Rel [] (S0 w) w ya v0) (bS:fA.plain=true) (aT:Rel [] (S0 w) w fA v1):a9 (fun i=>.arg i) (fun _=>none) [] (S0 w) w [ya,fA] [v0,v1] :=
 ajM rfl fun i u v hu ae=>by
  match i with
  | 0=>simp at hu ae;subst hu;subst ae;exact ⟨Nu,hM⟩
  | 1=>simp at hu ae;subst hu;subst ae;exact ⟨bS,aT⟩
  | i+2=>simp at hu
end
end Go.Proofs.YtfakoboiahbhaaaGreat.Ab


namespace Go.Proofs.YtfakoboiahbhaaaGreat.Ab
open Go Go.ChangeShapes Go.WideShapes Go.ChangeAt Go.RowKit
section
variable {H:Type} {enc:TypeId×Value→H} {P:Program} {w:World}
theorem Ys {α β:Type} {f:α→β} {R:α→Prop}:∀ {l:List β},(∀ u∈l,∃ x,u=f x∧R x)→∃ gq:List α,l=gq.map f∧∀ x∈gq,R x
 | [],_=>⟨[],rfl,by simp⟩
 | u::l,h=>by
   obtain ⟨x,rfl,ak⟩:=h u (by simp);obtain ⟨gq,rfl,bk⟩:=Ys (l:=l) fun y aZ=>h y (by simp [aZ]);exact ⟨x::gq,rfl,by simpa using ⟨ak,bk⟩⟩
def Pw (enc:TypeId×Value→H) (P:Program) (w:World) (bm:Array Field) (Qs:List (I→Prop)):Prop :=
 Qs.length=bm.size∧∀ (i:Nat) (f:Field) (q:I→Prop),bm[i]?=some f→Qs[i]?=some q→f.offset=i∧P.cellsOf f.type=1∧KW enc P w f.type q
def MZ (Qs:List (I→Prop)) (us:List I):Prop:=us.length=Qs.length∧∀ (i:Nat) (u:I) (q:I→Prop),us[i]?=some u→Qs[i]?=some q→q u
theorem Zw {t:TypeId} {bm:Array Field} {Qs:List (I→Prop)} (ay:P.underlying t=some (.struct bm)) (al:P.cellsOf t=bm.size) (aP:Pw enc P w bm Qs) {n:Nat} {cs:List Value} {y:DataW H×List MemPlace}
  (h:DataW.trod enc P w 0 (fun _=>true) true n t cs=some y):∃ us:List I,MZ Qs us∧cs.length=us.length∧∀ (j:Nat) (u:I) (v:Value),us[j]?=some u→cs[j]?=some v→u.plain=true∧v.oneCell'=true∧Rel [] (S0 w) w u v:=by
 obtain ⟨xs,m,_,_,ao,amr,ak⟩:=DataW.trod_struct ay h;rw [al] at ao;have each:∀ i,i<bm.size→∃ u:I,(∀ v,cs[i]?=some v→u.plain=true∧v.oneCell'=true∧Rel [] (S0 w) w u v)∧∀ q,Qs[i]?=some q→q u:=fun i hi=>by
  have ad:bm[i]?=some bm[i]:=Array.getElem?_eq_getElem hi;have a0:i<Qs.length:=by rw [aP.1];exact hi
  have af:Qs[i]?=some Qs[i]:=sK a0;obtain ⟨e1,ca,dx⟩:=aP.2 i _ _ ad af;have aG:=ak i _ ad;rw [e1,ca] at aG;have XU:i<cs.length:=by omega
  rw [tn XU,sK (by omega)] at aG;simp only [vo,tD] at aG;obtain ⟨u,aC,aI,aR,bl⟩:=dx _ _ _ aG;refine ⟨u,fun v ae=>?_,fun q Dn=>?_⟩
  ·rw [sK XU] at ae;cases ae;exact ⟨aC,aI,aR⟩
  ·rw [af] at Dn;cases Dn;exact bl
 obtain ⟨IW,J9⟩:=Deep.choose_lt (α:=I) (n:=bm.size) (p:=fun i u=>(∀ v,cs[i]?=some v→u.plain=true∧v.oneCell'=true∧Rel [] (S0 w) w u v)∧∀ q,Qs[i]?=some q→q u) each;have get:∀ (i:Nat) (u:I),((List.range bm.size).map IW)[i]?=some u→i<bm.size∧u=IW i:=fun i u hu=>by
  have hi:i<bm.size:=by have:=(sv.1 hu).1;simpa using this
  simp [hi] at hu;exact ⟨hi,hu.symm⟩
 refine ⟨(List.range bm.size).map IW,⟨by simp [aP.1],fun i u q hu a0=>?_⟩,by simp [ao],fun j u v hu ae=>?_⟩
 ·obtain ⟨hi,rfl⟩:=get i u hu;exact (J9 i hi).2 q a0
 ·obtain ⟨hi,rfl⟩:=get j u hu;exact (J9 j hi).1 v ae
theorem adC {base:Nat} {t:TypeId} {bm:Array Field} {Qs:List (I→Prop)} (ay:P.underlying t=some (.struct bm)) (al:P.cellsOf t=bm.size) (aP:Pw enc P w bm Qs):Arg enc P w base t fun u=>∃ us,u=.agg us∧MZ Qs us:=by
 intro v d p ae ⟨n,a3⟩;unfold Value.okWide at ae;rw [ay] at ae;obtain ⟨cs,rfl,bP,_⟩:=ae;obtain ⟨us,ad,af,aG⟩:=Zw ay al aP a3;have af:cs.toList.length=us.length:=af;refine ⟨.agg us,rfl,.agg us cs (by simpa using af) (fun u hu=>?_) (fun v ae=>?_) fun j u v hu ae=>?_,us,rfl,ad⟩
 ·obtain ⟨j,aw⟩:=tE.1 hu;have aS:j<cs.toList.length:=by rw [af];exact (sv.1 aw).1
  exact (aG j u _ aw (sK aS)).1
 ·obtain ⟨j,aw⟩:=tE.1 ae;have aS:j<us.length:=by rw [←af];exact (sv.1 aw).1
  exact (aG j _ v (sK aS) aw).2.1
 ·exact (aG j u v hu (by show cs.toList[j]?=some v;simpa using ae)).2.2
theorem Xq {s:Nat}:∀ {L:List (List I)} {j:Nat} {u:I},(∀ l∈L,l.length=s)→0<s→L.flatten[j]?=some u→∃ l,L[j / s]?=some l∧l[j % s]?=some u
 | [],j,u,_,_,h=>by simp at h
 | l::L,j,u,ao,ai,h=>by
   have aV:l.length=s:=ao l (by simp);rw [List.flatten_cons] at h;by_cases aw:j<s
   ·rw [sQ (by omega)] at h;exact ⟨l,by rw [Nat.div_eq_of_lt aw];rfl,by rw [Nat.mod_eq_of_lt aw];exact h⟩
   ·rw [s_ (by omega),aV] at h;obtain ⟨k,a,b⟩:=Xq (s:=s) (fun x ak=>ao x (by simp [ak])) ai h;(have e1:j / s=(j-s) / s+1:=by rw [Nat.div_eq_sub_div ai (by omega)]);(have ca:j % s=(j-s) % s:=by rw [Nat.mod_eq_sub_mod (by omega)]);exact ⟨k,by rw [e1];simpa using a,by rw [ca];exact b⟩
theorem adX {t e:TypeId} {bm:Array Field} {Qs:List (I→Prop)} (ay:P.underlying t=some (.slice e)) (he:P.underlying e=some (.struct bm)) (al:P.cellsOf e=bm.size) (aV:0<bm.size) (aP:Pw enc P w bm Qs) :
  KW enc P w t fun u=>∃ L:List (List I),u=.ax L.flatten L.length .shared∧L.length≤maxLen∧∀ us∈L,MZ Qs us:=by
 intro fuel v x h;rcases Deep.open_slice ay h with ⟨ae,_⟩ | ⟨a,len,cap,m,n,D,VS,ae,_,ao,hm,pK,_,ak⟩
 ·injection ae with ae _;subst ae;exact ⟨_,rfl,rfl,.b2 _ _,[],rfl,sP _,by simp⟩
 ·injection ae with ae _;subst ae;have pK:m=cap:=pK;by_cases CL:cap=0
  ·(subst CL;obtain rfl:len=0:=by omega);exact ⟨_,rfl,rfl,.b2 _ _,[],rfl,sP _,by simp⟩
  ·have each:∀ i,i<len→∃ q:List I×List Value,MZ Qs q.1∧q.2.length=bm.size∧w.cells? 0 (a.add (i*bm.size)) bm.size=some q.2∧∀ (j:Nat) (u:I) (v:Value),q.1[j]?=some u→q.2[j]?=some v→u.plain=true∧v.oneCell'=true∧Rel [] (S0 w) w u v:=fun i hi=>by
    obtain ⟨c8,ad,af⟩:=ak i (by omega);rw [al] at ad;obtain ⟨us,bq,cI,eE⟩:=Zw he al aP af;exact ⟨(us,c8),bq,by have:=bq.1;rw [cI,this,aP.1],ad,eE⟩
   obtain ⟨q0,_,_,afF,_⟩:∃ q:List Value,True∧True∧w.cells? 0 (a.add (0*bm.size)) bm.size=some q∧True:=by
    obtain ⟨c8,ad,_⟩:=ak 0 (by omega);rw [al] at ad;exact ⟨c8,trivial,trivial,ad,trivial⟩
   obtain ⟨b,o,sp⟩:=a;have ai:sp=none:=by
    obtain ⟨_,hlen,bx⟩:=World.cells?_some afF;have:=bx 0 aV;rw [sK (by omega)] at this;simpa [Addr.add] using World.cell?_spot this
   subst ai;obtain ⟨IW,J9⟩:=Deep.choose_lt (α:=List I×List Value) (n:=len) (p:=fun i q=>MZ Qs q.1∧q.2.length=bm.size∧w.cells? 0 (Addr.add ⟨b,o,none⟩ (i*bm.size)) bm.size=some q.2∧∀ (j:Nat) (u:I) (v:Value),q.1[j]?=some u→q.2[j]?=some v→u.plain=true∧v.oneCell'=true∧Rel [] (S0 w) w u v) each;(have aeT:∀ i,i<len→(IW i).1.length=bm.size:=fun i hi=>by have:=(J9 i hi).1.1;rw [this,aP.1]);have cU:∀ l∈((List.range len).map fun i=>(IW i).1),l.length=bm.size:=fun l c9=>by
    obtain ⟨i,hi,rfl⟩:=sM.1 c9;exact aeT i (sX.1 hi)
   let V:Nat→Value:=fun j=>((IW (j / bm.size)).2)[j % bm.size]!
   have key:∀ (j:Nat) (u:I),(((List.range len).map fun i=>(IW i).1).flatten)[j]?=some u→w.cell? ⟨b,o+j,none⟩=some (V j)∧u.plain=true∧(V j).oneCell'=true∧Rel [] (S0 w) w u (V j):=fun j u aw=>by
    obtain ⟨l,cb,b6⟩:=Xq cU aV aw;(have hi:j / bm.size<len:=by have:=(sv.1 cb).1;simpa using this);simp [hi] at cb;subst cb;obtain ⟨a',bb,bt,b9⟩:=J9 _ hi;have afw:j % bm.size<bm.size:=Nat.mod_lt _ aV;have ae:(IW (j / bm.size)).2[j % bm.size]?=some (V j):=by
     show _=some ((IW (j / bm.size)).2[j % bm.size]!);rw [sK (by omega),getElem!_pos _ _ (by omega)]
    obtain ⟨_,_,bx⟩:=World.cells?_some bt;have OI:=bx (j % bm.size) afw;rw [ae] at OI;have e:(Addr.add (Addr.add ⟨b,o,none⟩ (j / bm.size*bm.size)) (j % bm.size))=⟨b,o+j,none⟩:=by
     simp only [add_lit];congr 1;have:=Nat.div_add_mod' j bm.size;omega
    rw [e] at OI;exact ⟨OI,b9 _ _ _ b6 ae⟩
   refine ⟨.ax ((List.range len).map fun i=>(IW i).1).flatten len .shared,rfl,rfl,.ax _ _ _ b o cap V (by simp) ao (by simp) (fun j u aw=>?_) (fun j u aw=>?_),(List.range len).map fun i=>(IW i).1,by simp,by simp;omega,fun us hu=>?_⟩
   ·obtain ⟨aJ,aQ,cp,_⟩:=key j u aw;exact ⟨⟨_,aJ⟩,aJ,aQ,cp⟩
   ·exact (key j u aw).2.2.2
   ·obtain ⟨j,aw,rfl⟩:=sM.1 hu;exact (J9 j (sX.1 aw)).1
end
end Go.Proofs.YtfakoboiahbhaaaGreat.Ab


namespace Go.Proofs.YtfakoboiahbhaaaGreat.Ab
open Go
set_option maxRecDepth 20000
set_option maxHeartbeats 4000000
noncomputable def ab7:fW :=
 pZ [GC 3 [.jh 1] .box,qd 4 0,qd 5 0] (.seq (sj [pY 7 0,GC 8 [.Bt 7] .zY,qW 9 8 0,qW 10 9 1,qo 11 10,GC 12 [.sl 3] (.yH 0),qo 13 12,qZ 14 11 13 2,GC 15 [.Bt 14] (.zy (.str 2)),GC 6 [] (.alloc [.int .i64 0,.int .i64 0]),⟨none,[.sl 6,.jh 15],none,none,.st 2⟩]) (.seq (pZ [qW 16 3 1,qo 17 16,qA 18 17 0 .gtr] (.cond (.sl 18) (.seq (sj [GC 19 [.sl 6] (.yH 1),qo 20 19,GC 21 [.sl 6] (.yH 0),qo 22 21,pY 4 20,pY 5 22]) .ret) .skip)) (.seq (sj [GC 23 [.sl 6] (.yH 0),qo 24 23,GC 25 [.sl 6] (.yH 1),qo 26 25,pY 4 24,pY 5 26]) .ret)))
theorem agQ:zE Tryz.prog WC 68=some (ab7,27,[.tmp 4,.tmp 5]):=by kernel_rfl
def LU (t:qn) (p:(Int×Int)):Option (Int×Int) :=
 qg (0≤p.1∧p.1<(t.2.length:Int)) <|
 if (decide ((0:Int)<p.2))=true then
  some ((ix t.2 p.1).2,(ix t.2 p.1).1)
 else
  some ((ix t.2 p.1).1,(ix t.2 p.1).2)
theorem KT {t:qn} {p:(Int×Int)} {v:(Int×Int)} (h:LU t p=some v):qB 68 [(.bU [(hW t.1),(.ax (t.2.flatMap p0) t.2.length .shared)]),(.agg [(hW p.1),(hW p.2)])] (.tuple [(hW v.1),(hW v.2)]):=by
 refine q5 et agQ rfl (JZ (p2 rfl (p2 rfl rfl))) fun Q bp=>?_;have jD:qR [.tmp 4,.tmp 5] Q (fun v=>(.tuple [(hW v.1),(hW v.2)])) v:=fun T H bI=>bp _ T H bI;unfold LU at h;unfold ab7;conv=>whnf
 refine qx h id fun gG h=>?_;rw [qX p0 2 qv t.2 p.1 gG];conv=>whnf
 refine bs h (fun gH h=>?_) fun gH h=>?_
 ·rw [gH];conv=>whnf
  exact qi h jD rfl rfl
 ·rw [gH];conv=>whnf
  exact qi h jD rfl rfl
end Go.Proofs.YtfakoboiahbhaaaGreat.Ab


namespace Go.Proofs.YtfakoboiahbhaaaGreat.Ab
open Go
noncomputable def Ub:fW :=
 pZ [pY 30 7,GC 31 [.sl 2] (.zy .one),qT 32 30 31 .eql,pY 33 32,cS 34 [.sl 0] 33 true .mP,cS 35 [.Bt 6] 33 true (.zy (.str 2)),cS 36 [.jh 34,.jh 35] 33 true (.call 1),cS 37 [.Bt 36] 33 true (.un .not),GC 38 [.Bt 33,.Bt 37,.lT (.bool false)] .pick] (.cond (.sl 38) .ret .skip)
noncomputable def Uc:fW :=
 pZ [GC 25 [.sl 1] (.zy .one),GC 26 [.sl 6] (.zy (.str 2)),GC 27 [.lT (.func 68 [] []),.sl 25,.sl 26] (.call 3),pY 24 27,rI 28 24 0,GC 29 [.Bt 24] (.ext 1),pY 7 28,pY 8 29] Ub
noncomputable def Ud:fW :=
 pZ [p1 21 4,pY 22 5,GC 23 [.Bt 21,.Bt 22] (.build [.int .i64 0,.int .i64 0] [(0,1),(1,1)]),GC 6 [] (.alloc [.int .i64 0,.int .i64 0]),⟨none,[.sl 6,.jh 23],none,none,.st 2⟩] Uc
noncomputable def Ue:fW :=
 .block 3 (pZ [p1 20 18,pY 5 20] Ud)
noncomputable def Uf:fW :=
 pZ [qd 18 0] (.block 2 (.loop (some (qb false [0,3,1,1,9,2,2,1,22])) (pZ [GC 19 [.sl 18,.lT (.int .i64 2)] (.bin .lss)] (.seq (.cond (.sl 19) .skip (.exit 2)) (.seq Ue (qK [qU 39 18 1,pY 18 39]))))))
noncomputable def Ug:fW :=
 .block 1 (pZ [p1 17 15,pY 4 17] Uf)
noncomputable def YU:fW :=
 pZ [GC 9 [.sl 1] (.zy .one),GC 10 [.Bt 9] .zY,qW 11 10 0,qW 12 11 1,qo 13 12,qI 14 13,qd 15 0] (.block 0 (.loop (some (qb false [0,3,11,2,25])) (pZ [GC 16 [.sl 15,.sl 14] (.bin .lss)] (.seq (.cond (.sl 16) .skip (.exit 0)) (.seq Ug (qK [qU 40 15 1,pY 15 40]))))))
theorem af_:zE Go.Proofs.Tryz.prog Wc 113=some (YU,41,[]):=by kernel_rfl
end Go.Proofs.YtfakoboiahbhaaaGreat.Ab


namespace Go.Proofs.YtfakoboiahbhaaaGreat.Ab
open Go
set_option maxRecDepth 20000
set_option maxHeartbeats 4000000
abbrev p9:=Int×List (Int×Int)
def rC (r:Nat):Int×Int:=(((r / 2:Nat):Int),((r % 2:Nat):Int))
def qE (t:p9) (p:Int×Int):Int:=if 0<p.2 then (ix t.2 p.1).2 else (ix t.2 p.1).1
def fin (t:p9) (p:Int×Int):Int:=if 0<p.2 then (ix t.2 p.1).1 else (ix t.2 p.1).2
theorem Km {t:p9} {p:Int×Int} (h:0≤p.1∧p.1<(t.2.length:Int)):LU t p=some (qE t p,fin t p):=by
 rw [LU,qz h];unfold qE fin;by_cases ad:0<p.2
 ·rw [if_pos (decide_eq_true ad),if_pos ad,if_pos ad]
 ·rw [if_neg (by simpa using ad),if_neg ad,if_neg ad]
def r3 (t:p9) (figure:Int) (r:Nat):Bool:=decide (qE t (rC r)=figure)
def places (t:p9) (figure:Int):List (Int×Int):=((List.range (2*t.2.length)).filter (r3 t figure)).map rC
theorem St (p:Nat→Bool) {j:Nat} (aB:p j=true):∀ {n:Nat},j<n→((List.range n).filter p)[((List.range j).filter p).length]?=some j
 | 0,h=>absurd h (by omega)
 | n+1,h=>by
   rw [uZ,uy];by_cases aw:j<n
   ·have:=St p aB aw;rw [sQ (sv.1 this).1,this]
   ·(obtain rfl:j=n:=by omega);rw [s_ (sB _)];simp [aB]
theorem PM (p:Nat→Bool) (j:Nat):((List.range (j+1)).filter p).length=((List.range j).filter p).length+if p j=true then 1 else 0:=by
 rw [uZ,uy,sC];by_cases h:p j=true
 ·rw [if_pos h];simp [h]
 ·rw [if_neg h];simp [h]
theorem ai7 {α:Type} (Y:α) (step:Nat→α→α):∃ Z:Nat→α,Z 0=Y∧∀ j,Z (j+1)=step j (Z j):=⟨fun n=>Nat.rec Y (fun j z=>step j z) n,rfl,fun _=>rfl⟩
theorem Qq {n i b:Nat} (hi:i<n) (ag:b<2):rC (2*i+b)=((i:Int),(b:Int)):=by
 unfold rC;rw [show (2*i+b) / 2=i by omega,show (2*i+b) % 2=b by omega]
theorem WU {t:p9} {figure:Int} (ak:t.2.length≤1000) {L N:Nat} {rW:Nat→List ar} (hlen:∀ i,(rW i).length=N) {c:Nat→Nat} (al:∀ j,c j=((List.range j).filter (r3 t figure)).length) {M:Nat} (CB:M≤2*t.2.length) {Z:Nat→List ar} {Px:List ar}
  (bk:∀ r,r<M→if r3 t figure r=true then Sem Tryz.prog (.yield L) [.agg (p0 (rC r))] (rW (c r)++(Z r++[ar.cells (p0 (rC r))])) 0 (.bool true) (rW (c (r+1))++Z (r+1)) else Z (r+1)=Z r++[ar.cells (p0 (rC r))])
  (he:(M=2*t.2.length∧Px=rW (c M)++Z M)∨(M<2*t.2.length∧r3 t figure M=true∧Sem Tryz.prog (.yield L) [.agg (p0 (rC M))] (rW (c M)++(Z M++[ar.cells (p0 (rC M))])) 0 (.bool false) Px)) (Jd:bc 0 (rW 0++Z 0) Px) :
  Sem Tryz.prog (.fn 113) [.yield L,.bU [.bU [hW t.1,.ax (t.2.flatMap p0) t.2.length .shared]],.bU [hW figure]] (rW 0++Z 0) 0 (.tuple []) Px:=by
 obtain ⟨n,aN⟩:∃ n,n=t.2.length:=⟨_,rfl⟩;obtain ⟨p,aB⟩:∃ p,p=r3 t figure:=⟨_,rfl⟩;have jH:∀ j,c (j+1)=c j+if p j=true then 1 else 0:=fun j=>by rw [al,al,aB];exact PM _ j
 rw [←aN] at CB he ak;rw [←aB] at bk he;refine HB et af_ rfl Jd fun Q bp=>?_;unfold YU;obtain ⟨fZ,Hg⟩:∃ c,Ug=c:=⟨_,rfl⟩;rw [Hg];conv=>whnf
 rw [←aN];refine .intro (fun m T H=>∃ i:Nat,i≤n∧2*i≤M∧m=n-i∧T=Hc 41 [(0,.yield L),(1,.bU [.bU [hW t.1,.ax (t.2.flatMap p0) n .shared]]),(2,.bU [hW figure]),(14,hW (n:Int)),(15,hW (i:Int))]∧H=rW (c (2*i))++Z (2*i)) n ⟨0,sP _,sP _,rfl,rfl,by rw [al];rfl⟩ ?_;rintro m T H ⟨i,hi,afl,rfl,rfl,rfl⟩;conv=>whnf
 refine Ip (fun OI=>?_) (fun OI=>?_)
 ·have aS:i<n:=by omega
  conv=>whnf
  refine I5 fun nc Hv=>?_;subst Hg;unfold Ug;obtain ⟨dY,Cs⟩:∃ c,Uf=c:=⟨_,rfl⟩;rw [Cs];conv=>whnf
  refine I5 fun nd KC=>?_;subst Cs;unfold Uf;obtain ⟨b9,iF⟩:∃ c,Ue=c:=⟨_,rfl⟩;rw [iF];conv=>whnf
  refine .intro (fun m T H=>∃ b:Nat,b≤2∧2*i+b≤M∧m=2-b∧T=Hc 41 [(0,.yield L),(1,.bU [.bU [hW t.1,.ax (t.2.flatMap p0) n .shared]]),(2,.bU [hW figure]),(4,hW (i:Int)),(14,hW (n:Int)),(15,hW (i:Int)),(18,hW (b:Int))]∧H=rW (c (2*i+b))++Z (2*i+b)) 2 ⟨0,sP _,afl,rfl,rfl,rfl⟩ ?_;rintro m T H ⟨b,ag,S_,rfl,rfl,rfl⟩;conv=>whnf
  refine Ip (fun bu=>?_) (fun bu=>?_)
  ·(have gH:b<2:=by omega);have Ov:rC (2*i+b)=((i:Int),(b:Int)):=Qq aS gH;have aeO:LU t ((i:Int),(b:Int))=some (qE t ((i:Int),(b:Int)),fin t ((i:Int),(b:Int))):=Km ⟨by omega,by omega⟩;have Yy:=KT aeO;rw [←aN] at Yy;(conv=>whnf);refine I5 fun alQ SQ=>?_;subst iF;unfold Ue;obtain ⟨bt,er⟩:∃ c,Ud=c:=⟨_,rfl⟩;rw [er];(conv=>whnf);refine I5 fun alR SR=>?_;subst er;unfold Ud;obtain ⟨bb,b6⟩:∃ c,Uc=c:=⟨_,rfl⟩;rw [b6];(conv=>whnf);refine Es (x:=ar.cells [hW (0:Int),hW (0:Int)]) (by first | exact qy.h | rfl | (simp [sy,I.settle];done)) ?_
   (conv=>whnf);rw [rB];refine I5 fun alS SS=>?_;subst b6;unfold Uc;obtain ⟨a',cb⟩:∃ c,Ub=c:=⟨_,rfl⟩;rw [cb];(conv=>whnf);refine Es (x:=ar.cells [hW (i:Int),hW (b:Int)]) (by first | exact qy.h | rfl | (simp [sy,I.settle];done)) ?_
   (conv=>whnf);refine ⟨(p2 (re (p2 rfl (p2 (q4 (fun _=>(p2 rfl (p2 rfl rfl))) _ _ _) rfl))) (p2 (Kf (p2 rfl (p2 rfl rfl))) rfl)),_,Yy,?_⟩;(conv=>whnf);refine I5 fun alT SU=>?_;subst cb;unfold Ub;(conv=>whnf);rcases Jr (decide (qE t ((i:Int),(b:Int))=figure)) with Lu | Lu
   ·(have KI:p (2*i+b)=true:=by rw [aB];show decide (qE t (rC (2*i+b))=figure)=true;rw [Ov];exact Lu);rw [Lu];(conv=>whnf);refine Es (x:=ar.cells [hW (i:Int),hW (b:Int)]) (by first | exact qy.h | rfl | (simp [sy,I.settle];done)) ?_
    (conv=>whnf);rw [sH];by_cases SV:2*i+b<M
    ·have aj:=bk _ SV;rw [if_pos KI,Ov] at aj;refine ⟨_,_,HL aj,?_⟩;(conv=>whnf);refine SU _ _ _ ?_;(conv=>whnf);refine SS _ _ _ ?_;(conv=>whnf);refine SR _ _ _ ?_;(conv=>whnf);refine SQ _ _ _ ?_;(conv=>whnf);refine ⟨2-(b+1),by omega,b+1,by omega,by omega,rfl,?_,rfl⟩;rw [show IntKind.i64.wrap ((b:Int)+1)=((b+1:Nat):Int) by rw [Jn _ (by omega) (by omega)];omega];rfl
    ·(have aeR:M=2*i+b:=by omega);rcases he with ⟨ad,_⟩ | ⟨_,_,aG⟩
     ·omega
     ·rw [aeR,Ov] at aG;refine ⟨_,_,HL aG,?_⟩;(conv=>whnf);refine SU _ _ _ ?_;(conv=>whnf);refine SS _ _ _ ?_;(conv=>whnf);refine SR _ _ _ ?_;(conv=>whnf);refine SQ _ _ _ ?_;(conv=>whnf);refine KC _ _ _ ?_;(conv=>whnf);refine Hv _ _ _ ?_;(conv=>whnf);exact bp _ _ _ ⟨.inr rfl,lD.refl _,rfl⟩
   ·(have KI:¬ p (2*i+b)=true:=by rw [aB];show ¬ decide (qE t (rC (2*i+b))=figure)=true;rw [Ov,Lu];decide);have SV:2*i+b<M:=by
     rcases he with ⟨ad,_⟩ | ⟨_,af,_⟩
     ·omega
     ·rcases tq (2*i+b) M with h | h
      ·exact h
      ·rw [show M=2*i+b by omega] at af;exact absurd af KI
    have aj:=bk _ SV;rw [if_neg KI,Ov] at aj;rw [Lu];(conv=>whnf);refine SU _ _ _ ?_;(conv=>whnf);refine SS _ _ _ ?_;(conv=>whnf);refine SR _ _ _ ?_;(conv=>whnf);refine SQ _ _ _ ?_;(conv=>whnf);refine ⟨2-(b+1),by omega,b+1,by omega,by omega,rfl,?_,?_⟩
    ·rw [show IntKind.i64.wrap ((b:Int)+1)=((b+1:Nat):Int) by rw [Jn _ (by omega) (by omega)];omega];rfl
    ·rw [show 2*i+(b+1)=2*i+b+1 by omega,aj,jH,if_neg KI,sH];rfl
  ·(obtain rfl:b=2:=by omega);(conv=>whnf);refine KC _ _ _ ?_;(conv=>whnf);refine Hv _ _ _ ?_;(conv=>whnf);refine ⟨n-(i+1),by omega,i+1,by omega,by omega,rfl,?_,rfl⟩;rw [show IntKind.i64.wrap ((i:Int)+1)=((i+1:Nat):Int) by rw [Jn _ (by omega) (by omega)];omega];rfl
 ·obtain rfl:i=n:=by omega
  conv=>whnf
  rcases he with ⟨ad,af⟩ | ⟨ad,_,_⟩
  ·subst af;rw [ad] at bp;exact bp _ _ _ ⟨.inl rfl,lD.refl _,rfl⟩
  ·omega
theorem WT {t:p9} {figure:Int} {L N:Nat} {rW:Nat→List ar} (hlen:∀ i,(rW i).length=N) {c:Nat→Nat} (al:∀ j,c j=((List.range j).filter (r3 t figure)).length) {M:Nat} (Y:List ar)
  (aj:∀ r,r<M→r3 t figure r=true→∀ Y,∃ rL,Sem Tryz.prog (.yield L) [.agg (p0 (rC r))] (rW (c r)++Y) 0 (.bool true) (rW (c r+1)++rL)) :
  ∃ Z:Nat→List ar,Z 0=Y∧(∀ r,r<M→if r3 t figure r=true then Sem Tryz.prog (.yield L) [.agg (p0 (rC r))] (rW (c r)++(Z r++[ar.cells (p0 (rC r))])) 0 (.bool true) (rW (c (r+1))++Z (r+1)) else Z (r+1)=Z r++[ar.cells (p0 (rC r))]) ∧
    ∀ r,r≤M→(rW 0++Y).length≤(rW (c r)++Z r).length:=by
 have jH:∀ j,c (j+1)=c j+if r3 t figure j=true then 1 else 0:=fun j=>by rw [al,al];exact PM _ j
 have nL:∀ (j:Nat) (Y:List ar),∃ rL,j<M→r3 t figure j=true→Sem Tryz.prog (.yield L) [.agg (p0 (rC j))] (rW (c j)++Y) 0 (.bool true) (rW (c (j+1))++rL):=fun j Y=>by
  by_cases aw:j<M∧r3 t figure j=true
  ·obtain ⟨rL,h⟩:=aj j aw.1 aw.2 Y;exact ⟨rL,fun _ _=>by rw [jH,if_pos aw.2];exact h⟩
  ·exact ⟨[],fun a b=>absurd ⟨a,b⟩ aw⟩
 obtain ⟨g,aO⟩:∃ g:Nat→List ar→List ar,∀ (j:Nat) (Y:List ar),j<M→r3 t figure j=true→Sem Tryz.prog (.yield L) [.agg (p0 (rC j))] (rW (c j)++Y) 0 (.bool true) (rW (c (j+1))++g j Y) :=
  ⟨fun j Y=>Classical.choose (nL j Y),fun j Y=>vX (nL j Y)⟩
 clear nL;obtain ⟨Z,Ls,Lr⟩:=ai7 Y fun j Y=>if r3 t figure j=true then g j (Y++[ar.cells (p0 (rC j))]) else Y++[ar.cells (p0 (rC j))];refine ⟨Z,Ls,fun r Qb=>?_,fun r=>?_⟩
 ·by_cases h:r3 t figure r=true
  ·rw [if_pos h,Lr r,if_pos h];exact aO r _ Qb h
  ·rw [if_neg h,Lr r,if_neg h]
 ·induction r with
  | zero=>intro _;rw [Ls,sC,sC,hlen,hlen];exact sB _
  | succ j a_ =>
    intro aw;refine tb (a_ (by omega)) ?_;by_cases KI:r3 t figure j=true
    ·have ad:=(aO j (Z j++[ar.cells (p0 (rC j))]) (by omega) KI).1.1;rw [Lr j];simp only [if_pos KI];refine tb ?_ ad;rw [←sH];simp
    ·rw [Lr j,jH,if_neg KI];simp only [if_neg KI];rw [←sH];simp
theorem TH {t:p9} {figure:Int} {r:Nat} (aj:r<2*t.2.length) (ag:r3 t figure r=true):((places t figure).map fun p=>I.agg (p0 p))[((List.range r).filter (r3 t figure)).length]?=some (.agg (p0 (rC r))):=by
 rw [places,uE,sN,St _ ag aj];rfl
def LH (t:p9) (figure:Int):Option (List (Int×Int)):=if t.2.length≤1000 then some (places t figure) else none
theorem aiQ {t:p9} {figure:Int} {v:List (Int×Int)} (h:LH t figure=some v):Seq Tryz.prog 113 [.bU [.bU [hW t.1,.ax (t.2.flatMap p0) t.2.length .shared]],.bU [hW figure]] (v.map fun e1=>.agg [hW e1.1,hW e1.2]):=by
 unfold LH at h;split at h
 ·rename_i ak;obtain rfl:=Option.some.inj h;intro L N rW hlen fs aj Y;have al:∀ j,((List.range j).filter (r3 t figure)).length=((List.range j).filter (r3 t figure)).length:=fun _=>rfl;have H6:((places t figure).map fun e1=>I.agg [hW e1.1,hW e1.2]).length=((List.range (2*t.2.length)).filter (r3 t figure)).length:=by simp [places]
  obtain ⟨Z,Ls,Lr,hle⟩:=WT (t:=t) (figure:=figure) (L:=L) hlen al (M:=2*t.2.length) Y fun r Qb ag Y=>by
   have aO:=TH Qb ag;obtain ⟨ad,af⟩:=sv.1 aO;obtain ⟨rL,h⟩:=aj _ ad Y;refine ⟨rL,?_⟩;rw [←af];exact h
  refine ⟨Z (2*t.2.length),?_⟩;rw [H6,←Ls];exact WU ak hlen al (sB _) Lr (.inl ⟨rfl,rfl⟩) (Qi (by rw [Ls];exact hle _ (sB _)))
 ·cases h
end Go.Proofs.YtfakoboiahbhaaaGreat.Ab


namespace Go.Proofs.YtfakoboiahbhaaaGreat.Ab
open Go Go.ChangeShapes Go.WideShapes Go.ChangeAt Go.RowKit
set_option maxRecDepth 100000
section
variable {H:Type} {enc:TypeId×Value→H} {w:World} {base:Nat}
def M1:I→Prop:=fun u=>∃ x,u=hW x∧Kt x
theorem Sj:KW enc Tryz.prog w 3 M1:=fun n v y h=>by
 obtain ⟨u,a,b,c,x,rfl,d⟩:=W3 (P:=Tryz.prog) Tryz.underlying3 n v y h;exact ⟨_,a,b,c,x,rfl,wf_i64 d⟩
theorem ahp {us:List I} (h:MZ [M1,M1] us):∃ p:Int×Int,us=p0 p∧Kt p.1∧Kt p.2:=by
 obtain ⟨ao,h⟩:=h
 match us,ao with
 | [a,b],_ =>
   obtain ⟨x,rfl,ak⟩:=h 0 _ _ rfl rfl;obtain ⟨y,rfl,aZ⟩:=h 1 _ _ rfl rfl;exact ⟨(x,y),rfl,ak,aZ⟩
def RP (bo:List (Int×Int)):Prop:=bo.length≤9223372036854775807∧∀ p∈bo,Kt p.1∧Kt p.2
abbrev RV (bo:List (Int×Int)):I:=.ax (bo.flatMap p0) bo.length .shared
def VT:I→Prop:=fun u=>∃ bo,u=RV bo∧RP bo
theorem aeE : Pw enc Tryz.prog w #[{ name := "Left", type := 3, offset := 0, embedded := false, tag := "", pkgPath := "", byteOffset := 0 }, { name := "Right", type := 3, offset := 1, embedded := false, tag := "", pkgPath := "", byteOffset := 8 }] [M1, M1] := ⟨rfl, fun i f q aP a0 => by
 match i with
 | 0=>simp at aP a0;subst aP;subst a0;exact ⟨rfl,by kernel_rfl,Sj⟩
 | 1=>simp at aP a0;subst aP;subst a0;exact ⟨rfl,by kernel_rfl,Sj⟩
 | i+2=>simp at a0⟩
theorem adW:KW enc Tryz.prog w 22 VT:=fun n v y h=>by
 obtain ⟨u,a,b,c,L,rfl,ao,fs⟩:=adX Tryz.underlying22 Tryz.underlying67 (by kernel_rfl) (by decide) aeE n v y h;obtain ⟨bo,rfl,aB⟩:=Ys (f:=p0) (R:=fun p:Int×Int=>Kt p.1∧Kt p.2) fun us hu=>by
  obtain ⟨p,e,ad,af⟩:=ahp (fs us hu);exact ⟨p,e,ad,af⟩
 refine ⟨_,a,b,c,bo,?_,by have:=Yu ao;simpa using this,aB⟩;simp [RV,List.flatMap_def]
structure acn (b:p9):Prop where
 f:Kt b.1
 l:RP b.2
theorem adA:Arg enc Tryz.prog w base 24 fun u=>∃ b:p9,u=.agg [hW b.1,RV b.2]∧acn b:=by
 intro v d p ae a3
 obtain ⟨u,a,b,us,rfl,ao,hu⟩:=adC (P:=Tryz.prog) (enc:=enc) (w:=w) (base:=base) (Qs:=[M1,VT]) Tryz.underlying24 (by kernel_rfl) ⟨rfl,fun i f q aP a0=>by
  match i with
  | 0=>simp at aP a0;subst aP;subst a0;exact ⟨rfl,by kernel_rfl,Sj⟩
  | 1=>simp at aP a0;subst aP;subst a0;exact ⟨rfl,by kernel_rfl,adW⟩
  | i+2=>simp at a0⟩ v d p ae a3
 match us,ao with
 | [ju,aC],_ =>
   obtain ⟨x,rfl,ak⟩:=hu 0 _ _ rfl rfl;obtain ⟨y,rfl,aZ⟩:=hu 1 _ _ rfl rfl;exact ⟨_,a,b,(x,y),rfl,ak,aZ⟩
end
end Go.Proofs.YtfakoboiahbhaaaGreat.Ab


namespace Go.Proofs.YtfakoboiahbhaaaGreat.Ab
open Go Go.ChangeShapes Go.WideShapes Go.ChangeAt Go.RowKit
set_option maxRecDepth 100000
section
variable {H:Type} {enc:TypeId×Value→H} {w:World} {base:Nat}
theorem adD:Arg enc Tryz.prog w base 55 fun u=>∃ l,u=RX l∧VO l:=adB Tryz.underlying55 (adU Tryz.underlying55 (by kernel_rfl) Tryz.underlying5)
structure alP (l:List (List (Int×Int))):Prop where
 n:l.length≤9223372036854775807
 v:∀ r∈l,RP r
end
end Go.Proofs.YtfakoboiahbhaaaGreat.Ab


namespace Go.Proofs.YtfakoboiahbhaaaGreat.Ab
open Go
def Si:hv→hv→Bool
 | .shared,.shared=>true
 | .full,.full=>true
 | .own a,.own b=>Nat.beq a b
 | .uniq a,.uniq b=>Nat.beq a b
 | _,_=>false
theorem adR:∀ {a b:hv},Si a b=true→a=b:=by
 intro a b h;cases a <;> cases b <;> simp only [Si,ua] at h <;> first | rfl | (rw [tw h])
def JD (f:I→I→Bool):List I→List I→Bool
 | [],[]=>true
 | a::l,b::r=>match f a b with
   | true=>JD f l r
   | false=>false
 | _,_=>false
theorem K6 {f:I→I→Bool} (aP:∀ a b,f a b=true→a=b):∀ {a b:List I},JD f a b=true→a=b
 | [],[],_=>rfl
 | [],_::_,h=>by simp [JD] at h
 | _::_,[],h=>by simp [JD] at h
 | a::l,b::r,h=>by
   simp only [JD] at h;split at h
   ·rename_i jF;rw [aP a b jF,K6 aP h]
   ·cases h
def I_:Nat→I→I→Bool
 | 0,_,_=>false
 | d+1,a,b=>match a,b with
   | .bool x,.bool y=>match x,y with | true,true=>true | false,false=>true | _,_=>false
   | .int k x,.int q y=>match decide (k=q),decide (x=y) with | true,true=>true | _,_=>false
   | .eJ,.eJ=>true
   | .bU x,.bU y=>JD (I_ d) x y
   | .ax x n c,.ax y m e=>match JD (I_ d) x y,Nat.beq n m,Si c e with | true,true,true=>true | _,_,_=>false
   | .func f x y,.func g z w=>match Nat.beq f g,JD (I_ d) x z,JD (I_ d) y w with | true,true,true=>true | _,_,_=>false
   | .agg x,.agg y=>JD (I_ d) x y
   | .tuple x,.tuple y=>JD (I_ d) x y
   | _,_=>false
theorem M7:∀ (d:Nat) (a b:I),I_ d a b=true→a=b
 | 0,_,_,h=>by simp [I_] at h
 | d+1,a,b,h=>by
   have a_:=M7 d;unfold I_ at h;split at h
   ·split at h <;> first | rfl | cases h
   ·rename_i k x q y;split at h
    ·rename_i ad af;rw [of_decide_eq_true ad,of_decide_eq_true af]
    ·cases h
   ·rfl
   ·rw [K6 a_ h]
   ·split at h
    ·rename_i ad af aG;rw [K6 a_ ad,tw af,adR aG]
    ·cases h
   ·split at h
    ·rename_i ad af aG;rw [tw ad,K6 a_ af,K6 a_ aG]
    ·cases h
   ·rw [K6 a_ h]
   ·rw [K6 a_ h]
   ·cases h
inductive qL where
 | pure (k:Nat) (args:List I) (v:I)
 | map (k:Nat) (args:List I) (es:List (Nat×I×I)) (clock:Nat)
def q2 (P:Program):qL→Prop
 | .pure k args v=>lE P k args v
 | .map k args es clock=>∀ H,Sem P (.fn k) args H H.length (.map H.length) (H++[.map es clock])
def look (k:Nat) (args:List I) (H:List ar) (lo:Nat):List qL→Option (I×List ar)
 | []=>none
 | .pure q bs v::r=>match Nat.beq k q with
   | true=>match JD (I_ 20) args bs with
     | true=>match H with
       | []=>some (v,[])
       | _=>look k args H lo r
     | false=>look k args H lo r
   | false=>look k args H lo r
 | .map q bs es clock::r=>match Nat.beq k q with
   | true=>match JD (I_ 20) args bs with
     | true=>match Nat.beq lo H.length with
       | true=>some (.map H.length,H++[.map es clock])
       | false=>look k args H lo r
     | false=>look k args H lo r
   | false=>look k args H lo r
def U' (l:List qL):b8:=fun b0 args H lo=>match b0 with
 | .fn k=>look k args H lo l
 | _=>none
theorem Sem.agh {P:Program} {b0:fb} {args:List I} {r:I} {H':List ar} (h:Sem P b0 args [] 0 r H') (lo:Nat):Sem P b0 args [] lo r H' :=
 ⟨⟨h.1.1,fun _ _ h=>by simp at h⟩,h.2⟩
theorem look_ok {P:Program} {k:Nat} {args:List I} {H:List ar} {lo:Nat} {r:I} {H':List ar}:∀ {l:List qL},(∀ e∈l,q2 P e)→look k args H lo l=some (r,H')→Sem P (.fn k) args H lo r H'
 | [],_,h=>by simp [look] at h
 | .pure q bs v::l,ao,h=>by
   have KK:=look_ok (k:=k) (args:=args) (H:=H) (lo:=lo) (r:=r) (H':=H') fun e he=>ao e (uw _ he);unfold look at h;split at h
   ·rename_i ad;split at h
    ·rename_i af;split at h
     ·cases h;have:=ao (.pure q bs r) uY;rw [tw ad,K6 (M7 20) af];exact this.1.agh lo
     ·exact KK h
    ·exact KK h
   ·exact KK h
 | .map q bs es clock::l,ao,h=>by
   have KK:=look_ok (k:=k) (args:=args) (H:=H) (lo:=lo) (r:=r) (H':=H') fun e he=>ao e (uw _ he);unfold look at h;split at h
   ·rename_i ad;split at h
    ·rename_i af;split at h
     ·rename_i aG;cases h;have:=ao (.map q bs es clock) uY;rw [tw ad,K6 (M7 20) af,tw aG];exact this H
     ·exact KK h
    ·exact KK h
   ·exact KK h
theorem ajs {P:Program} {l:List qL} (ao:∀ e∈l,q2 P e):dc P (U' l):=o0 fun b0 args H lo r H' h=>by
 cases b0 with
 | fn k=>exact look_ok ao h
 | yield i=>simp [U'] at h
def LA (A:FuncId→dd):Nat→List Func→Bool
 | _,[]=>true
 | k,f::r=>match (A k).bad with
   | true=>LA A (k+1) r
   | false=>match f.body with
     | some c => match codeOk (A k) c, f.name == "runtime.NumGoroutine" with
       | true,false=>LA A (k+1) r
       | _,_=>false
     | none=>LA A (k+1) r
theorem Yz {A : FuncId → dd} : ∀ {l : List Func} {k : Nat}, LA A k l = true → ∀ (i : Nat) (f : Func) (c : Code), (A (k + i)).bad = false → l[i]? = some f → f.body = some c → codeOk (A (k + i)) c = true ∧ f.name ≠ "runtime.NumGoroutine"
 | [],_,_,i,f,c,_,h,_=>by simp at h
 | g::r,k,h,i,f,c,ny,aP,al=>by
   unfold LA at h;cases i with
   | zero =>
     simp at aP;subst aP;rw [Nat.add_zero] at ny;rw [ny,al] at h;simp only at h;split at h
     ·rename_i ad af;exact ⟨ad,by simpa using af⟩
     ·cases h
   | succ i =>
     have aj:LA A (k+1) r=true:=by
      split at h
      ·exact h
      ·split at h
       ·split at h
        ·exact h
        ·cases h
       ·exact h
     have:=Yz aj i f c (by rw [show k+1+i=k+(i+1) by omega];exact ny) (by simpa using aP) al;rw [show k+(i+1)=k+1+i by omega];exact this
theorem ahd {P : Program} {A : FuncId → dd} (h : LA A 0 P.funcs.toList = true) (k : Nat) (f : Func) (c : Code) (ag : (A k).bad = false) (aP : P.funcs[k]? = some f) (al : f.body = some c) : codeOk (A k) c = true ∧ f.name ≠ "runtime.NumGoroutine" := by
 have:=Yz h k f c (by rw [tg];exact ag) (by simpa using aP) al
 rwa [tg] at this
theorem adw:LA jx 0 Go.Proofs.Tryz.prog.funcs.toList=true:=by kernel_rfl
noncomputable def QM (l:List qL) (k:Nat) (args:List I):Option I:=match f_ Go.Proofs.Tryz.prog jx (U' l) 300 (.fn k) args [] 0 with
 | some (r,a4)=>match bJ a4 0 a4.length 0 8 r with
   | some v=>match cj 8 v.settle with
     | true=>some v.settle
     | false=>none
   | none=>none
 | none=>none
theorem Hp {l:List qL} (ao:∀ e∈l,q2 Go.Proofs.Tryz.prog e) {k:Nat} {args:List I} {v:I} (h:QM l k args=some v):lE Go.Proofs.Tryz.prog k args v:=by
 unfold QM at h;split at h
 ·rename_i r a4 al;split at h
  ·rename_i u aP;split at h
   ·rename_i aB;cases h;have ai:=(Ca et jx (ajs ao) (ahd adw) 300).Ha al;refine ⟨⟨bc.refl _ _,ai.2.1,fun B U J S w xs ah aN ae=>CallsIn.mono (ai.2.2 B U J S w xs ah aN ae) fun e w' he=>?_⟩,aB⟩;cases e with
    | returned x =>
      have kJ:=xA ah (fun id aE=>by simp at aE) aP he;show a1 B U J S w [] u.settle x w';cases u with
      | ax cells len eo =>
        cases eo with
        | uniq z=>exact kJ.settle
        | _=>exact kJ
      | _=>exact kJ
    | panicked c=>exact he.elim
    | outgrown=>exact he.elim
   ·cases h
  ·cases h
 ·cases h
end Go.Proofs.YtfakoboiahbhaaaGreat.Ab


namespace Go.Proofs.YtfakoboiahbhaaaGreat.Ab
open Go
noncomputable def aid:fW :=
 .oj false [pY 5 0,p1 6 2,pY 7 2,GC 8 [.Bt 7] (.conv .u64),GC 9 [.lT (.func 97 [] []),.sl 8] (.call 3),GC 10 [.lT (.func 96 [] []),.jh 5,.lT (.int .i64 0),.jh 6,.jh 9] (.call 1)]
noncomputable def Uy:fW :=
 pZ [p1 3 0,qI 4 3,pY 2 4] aid
theorem Yj:zE Go.Proofs.Tryz.prog WH 73=some (Uy,11,[]):=by kernel_rfl
noncomputable def O_:fW :=
 pZ [pY 24 0,pY 25 1,pY 26 2,GC 27 [.lT (.func 115 [] []),.jh 24,.jh 25,.jh 26] (.call 1)] .ret
noncomputable def ain:fW :=
 pZ [pY 30 0,pY 31 1,pY 32 2,GC 33 [.lT (.func 116 [] []),.jh 30,.jh 31,.jh 32] (.call 1)] .ret
noncomputable def aio:fW :=
 pZ [p1 36 0,p1 37 1,p1 38 2,GC 39 [.lT (.func 117 [] []),.jh 36,.jh 37,.jh 38] (.call 1)] (qK [pY 40 3,qA 41 40 1 .sub,pY 3 41])
noncomputable def aip:fW :=
 pZ [p1 55 2,qA 56 55 1 .sub,pY 57 11,p1 58 1,qT 59 57 58 .sub,qT 60 56 59 .sub,pY 11 60] (qK [qd 12 1])
noncomputable def aiq:fW :=
 pZ [p1 51 0,p1 52 1,p1 53 2,GC 54 [.lT (.func 119 [] []),.jh 51,.jh 52,.jh 53] (.call 1)] aip
noncomputable def air:fW :=
 pZ [p1 69 0,p1 70 1,p1 71 2,GC 72 [.lT (.func 120 [] []),.jh 69,.jh 70,.jh 71] (.call 1)] (.cond (.sl 72) .ret .skip)
noncomputable def ais:fW :=
 pZ [p1 88 0,pY 89 1,p1 90 2,pY 91 11,GC 92 [.lT (.func 122 [] []),.jh 88,.jh 89,.jh 90,.jh 91] (.call 1),pY 13 92] (pZ [pY 93 13,pY 1 93] (.exit 1))
noncomputable def ait:fW :=
 pZ [p1 117 0,pY 118 1,p1 119 14,p1 120 3,GC 121 [.lT (.func 96 [] []),.jh 117,.jh 118,.jh 119,.jh 120] (.call 1)] (qK [pY 122 14,qU 123 122 1,pY 1 123])
noncomputable def aiu:fW :=
 pZ [pY 114 16,pY 115 18,qT 116 114 115 .geq,pY 8 116] ait
noncomputable def aie:fW :=
 pZ [p1 127 0,p1 128 14,qU 129 128 1,pY 130 2,p1 131 3,GC 132 [.lT (.func 96 [] []),.jh 127,.jh 129,.jh 130,.jh 131] (.call 1)] (qK [pY 133 14,pY 2 133])
noncomputable def aif:fW :=
 pZ [pY 124 17,pY 125 18,qT 126 124 125 .geq,pY 8 126] aie
noncomputable def aih:fW :=
 pZ [pY 109 10,qA 110 109 8 .quo,pY 18 110] (pZ [p1 111 16,p1 112 17,qT 113 111 112 .lss] (.cond (.sl 113) aiu aif))
noncomputable def aii:fW :=
 pZ [p1 103 14,p1 104 1,qT 105 103 104 .sub,p1 106 2,p1 107 14,qT 108 106 107 .sub,pY 16 105,pY 17 108] aih
noncomputable def aij:fW :=
 pZ [p1 95 0,p1 96 1,p1 97 2,pY 98 11,GC 99 [.lT (.func 123 [] []),.jh 95,.jh 96,.jh 97,.jh 98] (.call 1),pY 94 99,rI 100 94 0,GC 101 [.Bt 94] (.ext 1),pY 14 100,pY 15 101] (pZ [pY 102 15,pY 9 102] aii)
noncomputable def aik:fW :=
 .seq (.seq (sj [p1 73 1,qA 74 73 0 .gtr,pY 75 74,cS 76 [.sl 0] 75 true .mP,cS 77 [.sl 1] 75 true .mP,cS 78 [.Bt 77,.lT (.int .i64 1)] 75 true (.bin .sub),cS 79 [.Bt 76,.Bt 78] 75 true (.kR 1),cS 80 [.Bt 79] 75 true (.zy .one),cS 81 [.sl 0] 75 true .mP,cS 82 [.sl 11] 75 true .mP,cS 83 [.Bt 81,.Bt 82] 75 true (.kR 1),cS 84 [.Bt 83] 75 true (.zy .one),⟨some 85,[.lT (.func 121 [] []),.sl 80,.sl 84],some (75,true),none,.call 3⟩,cS 86 [.Bt 85] 75 true (.un .not),GC 87 [.sl 75,.Bt 86,.lT (.bool false)] .pick]) (.cond (.sl 87) ais .skip)) aij
noncomputable def ail:fW :=
 .seq (pZ [p1 61 8,pY 62 61,cS 63 [.sl 9] 62 true .mP,GC 64 [.Bt 62,.Bt 63,.lT (.bool false)] .pick,pY 65 64,cS 66 [.jh 12] 65 true .mP,cS 67 [.Bt 66,.lT (.int .i64 1)] 65 true (.bin .eql),GC 68 [.Bt 65,.Bt 67,.lT (.bool false)] .pick] (.cond (.sl 68) air .skip)) aik
noncomputable def aim:fW :=
 pZ [p1 43 0,p1 44 1,p1 45 2,GC 46 [.lT (.func 118 [] []),.jh 43,.jh 44,.jh 45] (.call 1),pY 42 46,rI 47 42 0,GC 48 [.Bt 42] (.ext 1),pY 11 47,pY 12 48] (.seq (pZ [p1 49 12,qA 50 49 2 .eql] (.cond (.sl 50) aiq .skip)) ail)
noncomputable def U2:fW :=
 .seq (pZ [p1 28 3,qA 29 28 0 .eql] (.cond (.sl 29) ain .skip)) (.seq (pZ [p1 34 8,GC 35 [.Bt 34] (.un .not)] (.cond (.sl 35) aio .skip)) aim)
noncomputable def O':fW :=
 .block 1 (pZ [p1 19 2,p1 20 1,qT 21 19 20 .sub,pY 10 21] (.seq (pZ [p1 22 10,qA 23 22 12 .leq] (.cond (.sl 23) O_ .skip)) U2))
noncomputable def U1:fW :=
 pZ [GC 8 [.lT (.bool true)] .mP] (pZ [GC 9 [.lT (.bool true)] .mP] (.block 0 (.loop (some (qb false [0,4,4,2,124])) O')))
theorem Ym:zE Go.Proofs.Tryz.prog WM 96=some (U1,134,[]):=by kernel_rfl
noncomputable def ahL:fW :=
 .block 3 (sj [p1 33 0,p1 34 7,p1 35 0,p1 36 7,qA 37 36 1 .sub,p1 38 0,p1 39 7,qA 40 39 1 .sub,qZ 41 38 40 1,qo 42 41,p1 43 0,p1 44 7,qZ 45 43 44 1,qo 46 45,qZ 47 33 34 1,⟨none,[.jh 47,.jh 42],none,none,.st 1⟩,qZ 48 35 37 1,⟨none,[.jh 48,.jh 46],none,none,.st 1⟩])
noncomputable def ahM:fW :=
 .seq (.seq (sj [p1 16 7,p1 17 1,qT 18 16 17 .gtr,pY 19 18,cS 20 [.sl 0] 19 true .mP,cS 21 [.sl 7] 19 true .mP,cS 22 [.Bt 20,.Bt 21] 19 true (.kR 1),cS 23 [.Bt 22] 19 true (.zy .one),cS 24 [.sl 0] 19 true .mP,cS 25 [.sl 7] 19 true .mP,cS 26 [.Bt 25,.lT (.int .i64 1)] 19 true (.bin .sub),cS 27 [.Bt 24,.Bt 26] 19 true (.kR 1),cS 28 [.Bt 27] 19 true (.zy .one),⟨some 29,[.lT (.func 121 [] []),.sl 23,.sl 28],some (19,true),none,.call 3⟩,GC 30 [.sl 19,.Bt 29,.lT (.bool false)] .pick]) (.cond (.sl 30) .skip (.exit 2))) (.seq ahL (qK [pY 31 7,qA 32 31 1 .sub,pY 7 32]))
noncomputable def ahN:fW :=
 .block 1 (pZ [p1 15 6,pY 7 15] (.block 2 (.loop (some (qb false [0,3,3,2,41])) ahM)))
noncomputable def ahO:fW :=
 .seq (pZ [p1 10 6,p1 11 2,qT 12 10 11 .lss] (.cond (.sl 12) .skip (.exit 0))) (.seq ahN (qK [pY 13 6,qU 14 13 1,pY 6 14]))
noncomputable def Uh:fW :=
 pZ [p1 8 1,qU 9 8 1,pY 6 9] (.block 0 (.loop (some (qb false [0,3,3,1,42])) ahO))
theorem Yf:zE Go.Proofs.Tryz.prog Wd 115=some (Uh,49,[]):=by kernel_rfl
noncomputable def ahP:fW :=
 pZ [p1 5 0,GC 6 [.lT (.func 137 [] []),.sl 5] (.call 3),pY 7 6,cS 8 [.sl 1] 7 true .mP,⟨some 9,[.lT (.func 137 [] []),.sl 8],some (7,true),none,.call 3⟩,cS 10 [.Bt 9] 7 true (.un .not),GC 11 [.Bt 7,.Bt 10,.lT (.bool false)] .pick,pY 12 11,cS 13 [.jh 0] 12 false .mP,cS 14 [.jh 1] 12 false .mP,cS 15 [.Bt 13,.Bt 14] 12 false (.bin .lss),GC 16 [.Bt 12,.lT (.bool true),.Bt 15] .pick,pY 4 16] .ret
noncomputable def YV:fW :=
 pZ [GC 4 [.lT (.bool false)] .mP] ahP
theorem aga:zE Go.Proofs.Tryz.prog We 121=some (YV,17,[.tmp 4]):=by kernel_rfl
noncomputable def ah9:fW :=
 pZ [p1 3 0,pY 4 0,qT 5 3 4 .neq,pY 2 5] .ret
noncomputable def YX:fW :=
 pZ [GC 2 [.lT (.bool false)] .mP] ah9
theorem agc:zE Go.Proofs.Tryz.prog Wk 137=some (YX,6,[.tmp 2]):=by kernel_rfl
end Go.Proofs.YtfakoboiahbhaaaGreat.Ab


namespace Go.Proofs.YtfakoboiahbhaaaGreat.Ab
open Go
set_option maxRecDepth 20000
set_option maxHeartbeats 4000000
theorem af3 (x:Int):qB 137 [hW x] (B false):=by
 refine GI et agc rfl rfl ?_;unfold YX;conv=>whnf
 exact G8 (.inr rfl) rfl (by rw [decide_eq_false (show ¬ (x≠x) from fun h=>h rfl)];rfl)
theorem af8 (x y:Int):qB 121 [hW x,hW y] (B (decide (x<y))):=by
 refine GI et aga rfl rfl ?_;unfold YV;conv=>whnf
 refine ⟨by first | rfl | simp only [tJ,ux,Nv,ND,Nw,Ny,Nx,Nz,NG,NF,K_,NA,NB,NC,uj,uX],_,af3 x,?_⟩
 conv=>whnf
 exact G8 (.inr rfl) rfl rfl
def Kr (d:Array Int):ar:=.cells (d.toList.map hW)
def I8 (id n:Nat):I:=.ref id 0 n none 1
theorem adS (d:Array Int) (x:Nat) (h:x<d.size):(d.toList.map hW)[x]?=some (hW d[x]!):=by
 simp [h]
theorem adT (d:Array Int) (x:Nat) (v:Int):(d.toList.map hW).set x (hW v)=(d.setIfInBounds x v).toList.map hW:=by
 simp [vi]
theorem swp_size (d:Array Int) (i j:Nat):(Sort.swp d i j).size=d.size:=by simp [Sort.swp]
theorem QJ {d:Array Int} {n:Nat} (x:Nat) (e:n=x) (h:x<d.size) {K:I→Prop} (k:K (hW d[x]!)):eK (d.toList.map hW) n K:=by
 subst e;exact Es (adS d n h) k
theorem aaG {d:Array Int} {n:Nat} {v:Int} (x:Nat) (e:n=x) (h:x<d.size) {K:List I→Prop} (k:K ((d.setIfInBounds x v).toList.map hW)):jk (d.toList.map hW) n (hW v) K:=by
 subst e;refine Gm (by simpa using h) ?_;rw [adT];exact k
section
variable {H:List ar} {id lo:Nat} (bC:lo≤id)
include bC
theorem af2 (d:Array Int) (a b:Nat) (a3:d.size≤1000) (cc:a≤b) (ag:b≤d.size) (ah:H[id]?=some (Kr d)) :
  Sem Go.Proofs.Tryz.prog (.fn 115) [I8 id d.size,hW a,hW b] H lo (.tuple []) (H.set id (Kr (Sort.insertionSort Sort.ltInt d a b))):=by
 have aE:=(sv.1 ah).1;refine Sv et Yf rfl ⟨by simp,fun j ad af=>by rw [sJ (by omega)]⟩ ?_;unfold Uh;conv=>whnf
 have CI:Nat.ble lo id=true:=uF bC;have gs:∀ c:ar,(H.set id c)[id]?=some c:=fun c=>by rw [sI aE]
 have Jb:∀ c e:ar,((H.set id c).set id e)[id]?=some e:=fun c e=>by rw [te,gs]
 rw [rJ a (by omega)];refine .intro (fun m T H'=>∃ i gZ,a+1≤i∧(i≤b∨i=a+1)∧m=b+1-i∧gZ.size=d.size∧Sort.insOuter Sort.ltInt a b i gZ=Sort.insertionSort Sort.ltInt d a b∧T=Hc 49 [(0,I8 id d.size),(1,hW a),(2,hW b),(6,hW i)]∧H'=H.set id (Kr gZ)) (b-a) ⟨a+1,d,by omega,.inr rfl,by omega,rfl,rfl,rfl,?_⟩ ?_
 ·obtain ⟨ad,af⟩:=sv.1 ah;rw [←af,u5]
 rintro m T H' ⟨i,gZ,afk,XS,rfl,CT,he,rfl,rfl⟩;conv=>whnf
 refine Ip (fun h=>?_) (fun h=>?_)
 ·conv=>whnf
  refine .intro (fun j T H'=>∃ rS:Array Int,j≤i∧rS.size=d.size∧Sort.insInner Sort.ltInt a j rS=Sort.insInner Sort.ltInt a i gZ∧T=Hc 49 [(0,I8 id d.size),(1,hW a),(2,hW b),(6,hW i),(7,hW j)]∧H'=H.set id (Kr rS)) i ⟨gZ,sB _,CT,rfl,rfl,rfl⟩ ?_;rintro j T H' ⟨rS,aw,Mg,Mh,rfl,rfl⟩;conv=>whnf
  by_cases aG:(a:Int)<(j:Int)
  ·rw [decide_eq_true aG];obtain ⟨q,rfl⟩:∃ q,j=q+1:=⟨j-1,by omega⟩;(have hw:IntKind.i64.wrap (((q+1:Nat):Int)-1)=(q:Int):=by rw [Jn _ (by omega) (by omega)];omega);(conv=>whnf);refine ⟨by omega,?_⟩;(conv=>whnf);refine Es (by first | exact gs _ | exact Jb _ _ | assumption) ?_
   (conv=>whnf);refine QJ (q+1) (by omega) (by omega) ?_;(conv=>whnf);rw [hw];refine ⟨by omega,?_⟩;(conv=>whnf);refine Es (by first | exact gs _ | exact Jb _ _ | assumption) ?_
   (conv=>whnf);refine QJ (q) (by omega) (by omega) ?_;(conv=>whnf);refine ⟨by first | rfl | simp only [tJ,ux,Nv,ND,Nw,Ny,Nx,Nz,NG,NF,K_,NA,NB,NC,uj,uX],_,af8 rS[q+1]! rS[q]!,HS,?_⟩
   (conv=>whnf);by_cases a6:rS[q+1]!<rS[q]!
   ·rw [decide_eq_true a6];(conv=>whnf);rw [hw];refine ⟨by omega,?_⟩;(conv=>whnf);refine Es (by first | exact gs _ | exact Jb _ _ | assumption) ?_
    (conv=>whnf);refine QJ (q) (by omega) (by omega) ?_;(conv=>whnf);refine ⟨by omega,?_⟩;(conv=>whnf);refine Es (by first | exact gs _ | exact Jb _ _ | assumption) ?_
    (conv=>whnf);refine QJ (q+1) (by omega) (by omega) ?_;(conv=>whnf);refine ⟨by omega,?_⟩;(conv=>whnf);rw [CI];(conv=>whnf);refine Es (by first | exact gs _ | exact Jb _ _ | assumption) ?_
    (conv=>whnf);refine aaG (q+1) (by omega) (by first | omega | (simp only [uP];omega)) ?_
    (conv=>whnf);refine ⟨by omega,?_⟩;(conv=>whnf);rw [CI];(conv=>whnf);refine Es (by first | exact gs _ | exact Jb _ _ | assumption) ?_
    (conv=>whnf);refine aaG (q) (by omega) (by first | omega | (simp only [uP];omega)) ?_
    (conv=>whnf);refine ⟨q,by omega,Sort.swp rS (q+1) q,by omega,by rw [swp_size];exact Mg,?_,?_,?_⟩
    ·rw [←Mh,Sort.insInner,if_pos (by simp only [Sort.ltInt,sO,decide_eq_true_eq];exact ⟨by omega,a6⟩)]
    ·rw [hw];rfl
    ·simp only [te];rfl
   ·rw [decide_eq_false a6];(conv=>whnf);have e:Sort.insInner Sort.ltInt a i gZ=rS:=by
     rw [←Mh,Sort.insInner,if_neg (by simp only [Sort.ltInt,sO,decide_eq_true_eq];exact fun bI=>a6 bI.2)]
    exact ⟨b+1-(i+1),by omega,i+1,rS,by omega,by omega,rfl,Mg,by rw [←he,Sort.insOuter.eq_1 _ a b i,if_pos (by omega),e],by rw [←rJ i (by omega)];rfl,rfl⟩
  ·rw [decide_eq_false aG];(conv=>whnf);have e:Sort.insInner Sort.ltInt a i gZ=rS:=by
    rw [←Mh];cases j with
    | zero=>rfl
    | succ q=>rw [Sort.insInner,if_neg (by simp only [sO,decide_eq_true_eq];exact fun bI=>by omega)]
   exact ⟨b+1-(i+1),by omega,i+1,rS,by omega,by omega,rfl,Mg,by rw [←he,Sort.insOuter.eq_1 _ a b i,if_pos (by omega),e],by rw [←rJ i (by omega)];rfl,rfl⟩
 ·conv=>whnf
  have e:Sort.insertionSort Sort.ltInt d a b=gZ:=by
   rw [←he];unfold Sort.insOuter;rw [if_neg (by omega)]
  rw [e];exact ⟨.inl rfl,⟨by simp,fun j o aw=>.inr aw⟩,rfl⟩
theorem aiV {l:List ar} {i:Nat} {x:ar} (h:l[i]?=some x):l.set i x=l:=by
 obtain ⟨ad,af⟩:=sv.1 h;rw [←af,u5]
theorem ahw (d:Array Int) (Kd:Int) (a3:d.size≤12) (ah:H[id]?=some (Kr d)) :
  Sem Go.Proofs.Tryz.prog (.fn 96) [I8 id d.size,hW 0,hW d.size,hW Kd] H lo (.tuple []) (H.set id (Kr (Sort.insertionSort Sort.ltInt d 0 d.size))):=by
 refine HB et Ym rfl ⟨by simp,fun j ad af=>by rw [sJ (by omega)]⟩ fun Q bp=>?_;unfold U1;obtain ⟨Sb,J5⟩:∃ c,O'=c:=⟨_,rfl⟩;rw [J5];conv=>whnf
 refine .intro (fun m T H'=>T=Hc 134 [(0,I8 id d.size),(1,hW 0),(2,hW d.size),(3,hW Kd),(8,B true),(9,B true)]∧H'=H) 0 ⟨rfl,rfl⟩ ?_;rintro m T H' ⟨rfl,rfl⟩;subst J5;unfold O';obtain ⟨a',cb⟩:∃ c,O_=c:=⟨_,rfl⟩;obtain ⟨Sa,L'⟩:∃ c,U2=c:=⟨_,rfl⟩;rw [cb,L'];conv=>whnf
 rw [show IntKind.i64.wrap ((d.size:Int)-0)=(d.size:Int) by rw [Jn _ (by omega) (by omega)];omega,decide_eq_true (show (d.size:Int)≤12 by omega)];conv=>whnf
 subst cb;unfold O_;conv=>whnf
 refine ⟨_,_,HL (af2 bC d 0 d.size (by omega) (sP _) (sB _) ah),?_⟩;conv=>whnf
 exact bp _ _ _ ⟨.inr rfl,⟨rfl,fun j o aw=>.inr aw⟩,rfl⟩
end
theorem aaI (n:Int):IntKind.u64.wrap n=n % 18446744073709551616:=by simp [IntKind.wrap,IntKind.bits,IntKind.signed]
theorem af7:((List.range 13).all fun n=>match QM [] 97 [.int .u64 (n:Nat)] with | some v=>I_ 3 v (hW (Sort.bitsLen n)) | none=>false)=true:=by kernel_rfl
theorem PF (n:Nat) (h:n≤12):qB 97 [.int .u64 n] (hW (Sort.bitsLen n)):=by
 have:=sR.1 af7 n (sX.2 (by omega));split at this
 ·rename_i v ae;rw [M7 _ _ _ this] at ae;exact Hp (l:=[]) (by simp) ae
 ·cases this
theorem aiW {H:List ar} {id lo:Nat} (bC:lo≤id) (d:Array Int) (a3:d.size≤12) (ah:H[id]?=some (Kr d)) :
  Sem Go.Proofs.Tryz.prog (.fn 73) [I8 id d.size] H lo (.tuple []) (H.set id (Kr (Sort.insertionSort Sort.ltInt d 0 d.size))):=by
 refine HB et Yj rfl ⟨by simp,fun j ad af=>by rw [sJ (by omega)]⟩ fun Q bp=>?_;unfold Uy;conv=>whnf
 rw [show IntKind.u64.wrap (d.size:Int)=(d.size:Int) by rw [aaI];omega];refine ⟨by first | rfl | simp only [tJ,ux,Nv,ND,Nw,Ny,Nx,Nz,NG,NF,K_,NA,NB,NC,uj,uX],_,PF d.size a3,?_⟩
 conv=>whnf
 refine ⟨_,_,HL (ahw bC d (Sort.bitsLen d.size) a3 ah),?_⟩;conv=>whnf
 exact bp _ _ _ ⟨.inl rfl,⟨rfl,fun j o aw=>.inr aw⟩,rfl⟩
end Go.Proofs.YtfakoboiahbhaaaGreat.Ab


namespace Go.Proofs.YtfakoboiahbhaaaGreat.Ab
open Go
noncomputable def ahK:fW :=
 .oj false [pY 7 0,p1 8 4,pY 9 4,GC 10 [.Bt 9] (.conv .u64),GC 11 [.lT (.func 97 [] []),.sl 10] (.call 3),pY 12 1,GC 13 [.lT (.func 127 [] []),.jh 7,.lT (.int .i64 0),.jh 8,.jh 11,.jh 12] (.call 1)]
noncomputable def TV:fW :=
 pZ [p1 5 0,qI 6 5,pY 4 6] ahK
theorem Yb:zE Go.Proofs.Tryz.prog V6 102=some (TV,14,[]):=by kernel_rfl
noncomputable def O6:fW :=
 pZ [pY 26 0,pY 27 1,pY 28 2,pY 29 4,GC 30 [.lT (.func 138 [] []),.jh 26,.jh 27,.jh 28,.jh 29] (.call 1)] .ret
noncomputable def ah1:fW :=
 pZ [pY 33 0,pY 34 1,pY 35 2,pY 36 4,GC 37 [.lT (.func 139 [] []),.jh 33,.jh 34,.jh 35,.jh 36] (.call 1)] .ret
noncomputable def ah2:fW :=
 pZ [p1 40 0,p1 41 1,p1 42 2,p1 43 4,GC 44 [.lT (.func 140 [] []),.jh 40,.jh 41,.jh 42,.jh 43] (.call 1)] (qK [pY 45 3,qA 46 45 1 .sub,pY 3 46])
noncomputable def ah3:fW :=
 pZ [p1 62 2,qA 63 62 1 .sub,pY 64 13,p1 65 1,qT 66 64 65 .sub,qT 67 63 66 .sub,pY 13 67] (qK [qd 14 1])
noncomputable def ah4:fW :=
 pZ [p1 57 0,p1 58 1,p1 59 2,p1 60 4,GC 61 [.lT (.func 142 [] []),.jh 57,.jh 58,.jh 59,.jh 60] (.call 1)] ah3
noncomputable def ah5:fW :=
 pZ [p1 76 0,p1 77 1,p1 78 2,p1 79 4,GC 80 [.lT (.func 143 [] []),.jh 76,.jh 77,.jh 78,.jh 79] (.call 1)] (.cond (.sl 80) .ret .skip)
noncomputable def ah6:fW :=
 pZ [p1 98 0,pY 99 1,p1 100 2,pY 101 13,p1 102 4,GC 103 [.lT (.func 144 [] []),.jh 98,.jh 99,.jh 100,.jh 101,.jh 102] (.call 1),pY 15 103] (pZ [pY 104 15,pY 1 104] (.exit 1))
noncomputable def ah7:fW :=
 pZ [p1 129 0,pY 130 1,p1 131 16,p1 132 3,p1 133 4,GC 134 [.lT (.func 127 [] []),.jh 129,.jh 130,.jh 131,.jh 132,.jh 133] (.call 1)] (qK [pY 135 16,qU 136 135 1,pY 1 136])
noncomputable def ah8:fW :=
 pZ [pY 126 18,pY 127 20,qT 128 126 127 .geq,pY 10 128] ah7
noncomputable def ahT:fW :=
 pZ [p1 140 0,p1 141 16,qU 142 141 1,pY 143 2,p1 144 3,p1 145 4,GC 146 [.lT (.func 127 [] []),.jh 140,.jh 142,.jh 143,.jh 144,.jh 145] (.call 1)] (qK [pY 147 16,pY 2 147])
noncomputable def ahU:fW :=
 pZ [pY 137 19,pY 138 20,qT 139 137 138 .geq,pY 10 139] ahT
noncomputable def ahV:fW :=
 pZ [pY 121 12,qA 122 121 8 .quo,pY 20 122] (pZ [p1 123 18,p1 124 19,qT 125 123 124 .lss] (.cond (.sl 125) ah8 ahU))
noncomputable def ahW:fW :=
 pZ [p1 115 16,p1 116 1,qT 117 115 116 .sub,p1 118 2,p1 119 16,qT 120 118 119 .sub,pY 18 117,pY 19 120] ahV
noncomputable def ahX:fW :=
 pZ [p1 106 0,p1 107 1,p1 108 2,pY 109 13,p1 110 4,GC 111 [.lT (.func 145 [] []),.jh 106,.jh 107,.jh 108,.jh 109,.jh 110] (.call 1),pY 105 111,rI 112 105 0,GC 113 [.Bt 105] (.ext 1),pY 16 112,pY 17 113] (pZ [pY 114 17,pY 11 114] ahW)
noncomputable def ahY:fW :=
 .seq (.seq (sj [p1 81 1,qA 82 81 0 .gtr,pY 83 82,cS 84 [.sl 4] 83 true .mP,cS 85 [.sl 0] 83 true .mP,cS 86 [.sl 1] 83 true .mP,cS 87 [.Bt 86,.lT (.int .i64 1)] 83 true (.bin .sub),cS 88 [.Bt 85,.Bt 87] 83 true (.kR 1),cS 89 [.Bt 88] 83 true (.zy .one),cS 90 [.sl 0] 83 true .mP,cS 91 [.sl 13] 83 true .mP,cS 92 [.Bt 90,.Bt 91] 83 true (.kR 1),cS 93 [.Bt 92] 83 true (.zy .one),cS 94 [.sl 84,.sl 89,.sl 93] 83 true (.call 6),cS 95 [.Bt 94,.lT (.int .i64 0)] 83 true (.bin .lss),cS 96 [.Bt 95] 83 true (.un .not),GC 97 [.sl 83,.Bt 96,.lT (.bool false)] .pick]) (.cond (.sl 97) ah6 .skip)) ahX
noncomputable def ahZ:fW :=
 .seq (pZ [p1 68 10,pY 69 68,cS 70 [.sl 11] 69 true .mP,GC 71 [.Bt 69,.Bt 70,.lT (.bool false)] .pick,pY 72 71,cS 73 [.jh 14] 72 true .mP,cS 74 [.Bt 73,.lT (.int .i64 1)] 72 true (.bin .eql),GC 75 [.Bt 72,.Bt 74,.lT (.bool false)] .pick] (.cond (.sl 75) ah5 .skip)) ahY
noncomputable def ah0:fW :=
 pZ [p1 48 0,p1 49 1,p1 50 2,p1 51 4,GC 52 [.lT (.func 141 [] []),.jh 48,.jh 49,.jh 50,.jh 51] (.call 1),pY 47 52,rI 53 47 0,GC 54 [.Bt 47] (.ext 1),pY 13 53,pY 14 54] (.seq (pZ [p1 55 14,qA 56 55 2 .eql] (.cond (.sl 56) ah4 .skip)) ahZ)
noncomputable def Uk:fW :=
 .seq (pZ [p1 31 3,qA 32 31 0 .eql] (.cond (.sl 32) ah1 .skip)) (.seq (pZ [p1 38 10,GC 39 [.Bt 38] (.un .not)] (.cond (.sl 39) ah2 .skip)) ah0)
noncomputable def O7:fW :=
 .block 1 (pZ [p1 21 2,p1 22 1,qT 23 21 22 .sub,pY 12 23] (.seq (pZ [p1 24 12,qA 25 24 12 .leq] (.cond (.sl 25) O6 .skip)) Uk))
noncomputable def Uj:fW :=
 pZ [GC 10 [.lT (.bool true)] .mP] (pZ [GC 11 [.lT (.bool true)] .mP] (.block 0 (.loop (some (qb false [0,5,5,2,136])) O7)))
theorem Yh:zE Go.Proofs.Tryz.prog Wg 127=some (Uj,148,[]):=by kernel_rfl
noncomputable def ah_:fW :=
 .block 3 (sj [p1 37 0,p1 38 9,p1 39 0,p1 40 9,qA 41 40 1 .sub,p1 42 0,p1 43 9,qA 44 43 1 .sub,qZ 45 42 44 1,qo 46 45,p1 47 0,p1 48 9,qZ 49 47 48 1,qo 50 49,qZ 51 37 38 1,⟨none,[.jh 51,.jh 46],none,none,.st 1⟩,qZ 52 39 41 1,⟨none,[.jh 52,.jh 50],none,none,.st 1⟩])
noncomputable def aia:fW :=
 .seq (.seq (sj [p1 18 9,p1 19 1,qT 20 18 19 .gtr,pY 21 20,cS 22 [.sl 3] 21 true .mP,cS 23 [.sl 0] 21 true .mP,cS 24 [.sl 9] 21 true .mP,cS 25 [.Bt 23,.Bt 24] 21 true (.kR 1),cS 26 [.Bt 25] 21 true (.zy .one),cS 27 [.sl 0] 21 true .mP,cS 28 [.sl 9] 21 true .mP,cS 29 [.Bt 28,.lT (.int .i64 1)] 21 true (.bin .sub),cS 30 [.Bt 27,.Bt 29] 21 true (.kR 1),cS 31 [.Bt 30] 21 true (.zy .one),cS 32 [.sl 22,.sl 26,.sl 31] 21 true (.call 6),cS 33 [.Bt 32,.lT (.int .i64 0)] 21 true (.bin .lss),GC 34 [.sl 21,.Bt 33,.lT (.bool false)] .pick]) (.cond (.sl 34) .skip (.exit 2))) (.seq ah_ (qK [pY 35 9,qA 36 35 1 .sub,pY 9 36]))
noncomputable def aib:fW :=
 .block 1 (pZ [p1 17 8,pY 9 17] (.block 2 (.loop (some (qb false [0,4,4,2,43])) aia)))
noncomputable def aic:fW :=
 .seq (pZ [p1 12 8,p1 13 2,qT 14 12 13 .lss] (.cond (.sl 14) .skip (.exit 0))) (.seq aib (qK [pY 15 8,qU 16 15 1,pY 8 16]))
noncomputable def Uo:fW :=
 pZ [p1 10 1,qU 11 10 1,pY 8 11] (.block 0 (.loop (some (qb false [0,4,4,1,44])) aic))
theorem Yi:zE Go.Proofs.Tryz.prog Wl 138=some (Uo,53,[]):=by kernel_rfl
noncomputable def ahQ:fW :=
 pZ [p1 11 1,p1 12 0,p1 13 5,qZ 14 12 13 1,qo 15 14,GC 16 [.sl 11,.sl 15] (.call 6)] (.cond (.sl 16) (pZ [pY 17 5,pY 4 17] .ret) .skip)
noncomputable def ahR:fW :=
 .block 1 (pZ [p1 10 8,pY 5 10] ahQ)
noncomputable def ahS:fW :=
 .seq (pZ [p1 6 0,qI 7 6,qd 8 0] (.block 0 (.loop (some (qb false [0,2,5,2,10])) (pZ [GC 9 [.sl 8,.sl 7] (.bin .lss)] (.seq (.cond (.sl 9) .skip (.exit 0)) (.seq ahR (qK [qU 18 8 1,pY 8 18]))))))) (pZ [qd 4 (-1)] .ret)
noncomputable def Ui:fW :=
 pZ [qd 4 0] ahS
theorem Yg:zE Go.Proofs.Tryz.prog Wf 126=some (Ui,19,[.tmp 4]):=by kernel_rfl
noncomputable def UA:fW :=
 pZ [p1 45 0,p1 46 3,p1 47 4,p1 48 5,qZ 49 47 48 1,qo 50 49,qZ 51 45 46 1,⟨none,[.jh 51,.jh 50],none,none,.st 1⟩] (qK [pY 52 3,qU 53 52 1,pY 3 53])
noncomputable def YZ:fW :=
 .block 3 (.seq (sj [p1 35 4,p1 36 5,qZ 37 35 36 1,qo 38 37,p1 39 4,p1 40 5,qA 41 40 1 .sub,qZ 42 39 41 1,qo 43 42,qT 44 38 43 .neq]) (.cond (.sl 44) UA .skip))
noncomputable def UB:fW :=
 .seq (pZ [p1 29 5,p1 30 4,qI 31 30,qT 32 29 31 .lss] (.cond (.sl 32) .skip (.exit 2))) (.seq YZ (qK [pY 33 5,qU 34 33 1,pY 5 34]))
noncomputable def Y0:fW :=
 pZ [pY 57 0,pY 58 3,GC 59 [.jh 57,.jh 58] (.Bh 1 false true false),pY 2 59] .ret
noncomputable def UC:fW :=
 pZ [p1 54 0, p1 55 3, GC 56 [.jh 54, .jh 55] (.Bh 1 true false false), ⟨none, [.jh 56], none, none, .other (Oper.mk none (Op.call (Call.mk (Callee.builtin Builtin.clear) (Array.mk [Operand.tmp 56]) (Array.mk [38]))) 0 "slices.go:385" (Array.mk [Edge.mk 2 Ground.data]) none) 0⟩] Y0
noncomputable def UD:fW :=
 pZ [p1 26 0,p1 27 3,GC 28 [.jh 26,.jh 27] (.Bh 1 true false false),pY 4 28] (.seq (pZ [qd 5 1] (.block 2 (.loop (some (qb false [0,1,2,3,55])) UB))) UC)
noncomputable def Y1:fW :=
 .block 1 (.seq (sj [p1 16 0,p1 17 3,qZ 18 16 17 1,qo 19 18,p1 20 0,p1 21 3,qA 22 21 1 .sub,qZ 23 20 22 1,qo 24 23,qT 25 19 24 .eql]) (.cond (.sl 25) UD .skip))
noncomputable def O9:fW :=
 .seq (pZ [p1 10 3,p1 11 0,qI 12 11,qT 13 10 12 .lss] (.cond (.sl 13) .skip (.exit 0))) (.seq Y1 (qK [pY 14 3,qU 15 14 1,pY 3 15]))
noncomputable def NI:fW :=
 .seq (pZ [⟨some 6,[.jh 0],none,some 0,.Br⟩,qI 7 6,qA 8 7 2 .lss] (.cond (.sl 8) (pZ [pY 9 0,pY 2 9] .ret) .skip)) (.seq (pZ [qd 3 1] (.block 0 (.loop (some (qb false [0,1,2,1,57])) O9))) (pZ [pY 60 0,pY 2 60] .ret))
noncomputable def Uz:fW :=
 pZ [GC 2 [.lT (.ax [] 0 .full)] (.nil 1)] NI
theorem Yk:zE Go.Proofs.Tryz.prog R6 74=some (Uz,61,[.tmp 2]):=by kernel_rfl
noncomputable def O0:fW :=
 pZ [p1 30 0,p1 31 5,pY 32 7,qZ 33 30 31 1,⟨none,[.jh 33,.jh 32],none,none,.st 1⟩] (qK [pY 34 5,qU 35 34 1,pY 5 35])
noncomputable def O1:fW :=
 pZ [p1 26 1,p1 27 7,GC 28 [.sl 26,.sl 27] (.call 6),GC 29 [.Bt 28] (.un .not)] (.cond (.sl 29) O0 .skip)
noncomputable def T':fW :=
 .block 1 (pZ [p1 22 0,p1 23 6,qZ 24 22 23 1,qo 25 24,pY 7 25] O1)
noncomputable def O2:fW :=
 .seq (pZ [p1 16 6,p1 17 0,qI 18 17,qT 19 16 18 .lss] (.cond (.sl 19) .skip (.exit 0))) (.seq T' (qK [pY 20 6,qU 21 20 1,pY 6 21]))
noncomputable def O3:fW :=
 pZ [pY 39 0,pY 40 5,GC 41 [.jh 39,.jh 40] (.Bh 1 false true false),pY 4 41] .ret
noncomputable def O4:fW :=
 pZ [p1 36 0, p1 37 5, GC 38 [.jh 36, .jh 37] (.Bh 1 true false false), ⟨none, [.jh 38], none, none, .other (Oper.mk none (Op.call (Call.mk (Callee.builtin Builtin.clear) (Array.mk [Operand.tmp 38]) (Array.mk [38]))) 0 "slices.go:253" (Array.mk [Edge.mk 2 Ground.data]) none) 0⟩] O3
noncomputable def O5:fW :=
 .seq (pZ [p1 11 5,qA 12 11 (-1) .eql] (.cond (.sl 12) (pZ [pY 13 0,pY 4 13] .ret) .skip)) (.seq (pZ [p1 14 5,qU 15 14 1,pY 6 15] (.block 0 (.loop (some (qb false [0,2,3,2,35])) O2))) O4)
noncomputable def Ua:fW :=
 pZ [⟨some 8,[.jh 0],none,some 0,.Br⟩,p1 9 1,GC 10 [.lT (.func 114 [] []),.sl 8,.sl 9] (.call 6),pY 5 10] O5
noncomputable def T_:fW :=
 pZ [GC 4 [.lT (.ax [] 0 .full)] (.nil 1)] Ua
theorem Ye:zE Go.Proofs.Tryz.prog V9 107=some (T_,42,[.tmp 4]):=by kernel_rfl
end Go.Proofs.YtfakoboiahbhaaaGreat.Ab


namespace Go.Proofs.YtfakoboiahbhaaaGreat.Ab
open Go
set_option maxRecDepth 20000
set_option maxHeartbeats 4000000
noncomputable def abA:fW :=
 pZ [qd 4 0] (.seq (sj [pY 5 0,GC 6 [.Bt 5,.lT (.int .i64 0)] (.kR 1),qo 7 6,pY 8 1,GC 9 [.Bt 8,.lT (.int .i64 0)] (.kR 1),qo 10 9,qT 11 7 10 .sub,pY 4 11]) .ret)
theorem agj:zE Tryz.prog V7 103=some (abA,12,[.tmp 4]):=by kernel_rfl
def Vj (x y:qt):Option Int :=
 qg (0≤(0:Int)∧(0:Int)<(x.length:Int)) <|
 qg (0≤(0:Int)∧(0:Int)<(y.length:Int)) <|
 some (w ((ix x (0:Int))-(ix y (0:Int))))
theorem akh {x:qt} {y:qt} {v:Int} (h:Vj x y=some v):qB 103 [(.ax (x.map hW) x.length .shared),(.ax (y.map hW) y.length .shared)] (hW v):=by
 refine q5 et agj rfl rfl fun Q bp=>?_;have jD:qR [.tmp 4] Q (fun v=>(hW v)) v:=fun T H bI=>bp _ T H bI;unfold Vj at h;unfold abA;conv=>whnf
 refine qx h id fun gG h=>?_;rw [se hW x (0:Int) gG];conv=>whnf
 refine qx h id fun gH h=>?_;rw [se hW y (0:Int) gH];conv=>whnf
 exact qi h jD rfl rfl

theorem ai_ (d:Array (List Int)) (i j:Nat):(Sort.swp d i j).size=d.size:=by simp [Sort.swp]
theorem swp_get (d:Array (List Int)) (i j x:Nat) (hi:i<d.size) (aw:j<d.size):∃ y,y<d.size∧(x<d.size→(Sort.swp d i j)[x]! = d[y]!):=by
 by_cases ak:x<d.size
 ·by_cases af:x=j
  ·exact ⟨i,hi,fun _=>by subst af;simp [Sort.swp,aw]⟩
  ·by_cases ad:x=i
   ·exact ⟨j,aw,fun _=>by subst ad;simp [Sort.swp,hi,Array.getElem_setIfInBounds,Ne.symm af]⟩
   ·exact ⟨x,ak,fun _=>by simp [Sort.swp,ak,Array.getElem_setIfInBounds,Ne.symm ad,Ne.symm af]⟩
 ·exact ⟨i,hi,fun h=>absurd h ak⟩
def Ks (g:Nat) (d:Array (List Int)):ar:=.grow (d.toList.map oN) g 1
theorem adY (d:Array (List Int)) (x:Nat) (h:x<d.size):(d.toList.map oN)[x]?=some (oN d[x]!):=by
 simp [h]
theorem adZ (d:Array (List Int)) (x:Nat) (v:List Int):(d.toList.map oN).set x (oN v)=(d.setIfInBounds x v).toList.map oN:=by
 simp [vi]
theorem QK {d:Array (List Int)} {n:Nat} (x:Nat) (e:n=x) (h:x<d.size) {K:I→Prop} (k:K (oN d[x]!)):eK (d.toList.map oN) n K:=by
 subst e;exact Es (adY d n h) k
theorem aaH {d:Array (List Int)} {n:Nat} {v:List Int} (x:Nat) (e:n=x) (h:x<d.size) {K:List I→Prop} (k:K ((d.setIfInBounds x v).toList.map oN)):jk (d.toList.map oN) n (oN v) K:=by
 subst e;refine Gm (by simpa using h) ?_;rw [adZ];exact k
def Li (l:List Int):Prop:=l≠[]∧0≤ix l 0∧ix l 0≤1000
def IA (x y:List Int):Bool:=decide (ix x 0<ix y 0)
theorem ad_ {x y:List Int} (ak:Li x) (aZ:Li y):∃ r:Int,qB 103 [oN x,oN y] (hW r)∧decide (r<0)=IA x y:=by
 refine ⟨ix x 0-ix y 0,akh ?_,?_⟩
 ·have ad:=tS.2 ak.1;have af:=tS.2 aZ.1;rw [Vj,qz ⟨by omega,by omega⟩,qz ⟨by omega,by omega⟩,JH (by have:=ak.2;have:=aZ.2;omega)]
 ·unfold IA;congr 1;exact propext (by omega)
section
variable {H:List ar} {id lo g:Nat} (bC:lo≤id)
include bC
theorem af1 (d:Array (List Int)) (a b:Nat) (a3:d.size≤1000) (cc:a≤b) (ag:b≤d.size) (ah:H[id]?=some (Ks g d)) (OE:∀ x,x<d.size→Li d[x]!) :
  Sem Go.Proofs.Tryz.prog (.fn 138) [I8 id d.size,hW a,hW b,.func 103 [] []] H lo (.tuple []) (H.set id (Ks g (Sort.insertionSort IA d a b))):=by
 have aE:=(sv.1 ah).1;refine Sv et Yi rfl ⟨by simp,fun j ad af=>by rw [sJ (by omega)]⟩ ?_;unfold Uo;conv=>whnf
 have CI:Nat.ble lo id=true:=uF bC;have gs:∀ c:ar,(H.set id c)[id]?=some c:=fun c=>by rw [sI aE]
 have Jb:∀ c e:ar,((H.set id c).set id e)[id]?=some e:=fun c e=>by rw [te,gs]
 rw [rJ a (by omega)];refine .intro (fun m T H'=>∃ i gZ,a+1≤i∧(i≤b∨i=a+1)∧m=b+1-i∧gZ.size=d.size∧(∀ x,x<d.size→Li gZ[x]!)∧Sort.insOuter IA a b i gZ=Sort.insertionSort IA d a b∧T=Hc 53 [(0,I8 id d.size),(1,hW a),(2,hW b),(3,.func 103 [] []),(8,hW i)]∧H'=H.set id (Ks g gZ)) (b-a) ⟨a+1,d,by omega,.inr rfl,by omega,rfl,OE,rfl,rfl,?_⟩ ?_
 ·obtain ⟨ad,af⟩:=sv.1 ah;rw [←af,u5]
 rintro m T H' ⟨i,gZ,afk,XS,rfl,CT,CD,he,rfl,rfl⟩;conv=>whnf
 refine Ip (fun h=>?_) (fun h=>?_)
 ·conv=>whnf
  refine .intro (fun j T H'=>∃ rS:Array (List Int),j≤i∧rS.size=d.size∧(∀ x,x<d.size→Li rS[x]!)∧Sort.insInner IA a j rS=Sort.insInner IA a i gZ∧T=Hc 53 [(0,I8 id d.size),(1,hW a),(2,hW b),(3,.func 103 [] []),(8,hW i),(9,hW j)]∧H'=H.set id (Ks g rS)) i ⟨gZ,sB _,CT,CD,rfl,rfl,rfl⟩ ?_;rintro j T H' ⟨rS,aw,Mg,OD,Mh,rfl,rfl⟩;conv=>whnf
  by_cases aG:(a:Int)<(j:Int)
  ·rw [decide_eq_true aG];obtain ⟨y,rfl⟩:∃ y,j=y+1:=⟨j-1,by omega⟩;(have hw:IntKind.i64.wrap (((y+1:Nat):Int)-1)=(y:Int):=by rw [Jn _ (by omega) (by omega)];omega);obtain ⟨r,aj,Dw⟩:=ad_ (OD (y+1) (by omega)) (OD y (by omega));(conv=>whnf);refine ⟨by omega,?_⟩;(conv=>whnf);refine Es (by first | exact gs _ | exact Jb _ _ | assumption) ?_
   (conv=>whnf);refine QK (y+1) (by omega) (by first | omega | (simp only [uP];omega)) ?_
   (conv=>whnf);rw [hw];refine ⟨by omega,?_⟩;(conv=>whnf);refine Es (by first | exact gs _ | exact Jb _ _ | assumption) ?_
   (conv=>whnf);refine QK (y) (by omega) (by first | omega | (simp only [uP];omega)) ?_
   (conv=>whnf);refine ⟨(p2 (r7 (fun _=>rfl) _ _ _) (p2 (r7 (fun _=>rfl) _ _ _) rfl)),[oN rS[y+1]!,oN rS[y]!],rfl,_,rfl,aj,HS,?_⟩;(conv=>whnf);rw [Dw];by_cases a6:IA rS[y+1]! rS[y]! = true
   ·rw [a6];(conv=>whnf);rw [hw];refine ⟨by omega,?_⟩;(conv=>whnf);refine Es (by first | exact gs _ | exact Jb _ _ | assumption) ?_
    (conv=>whnf);refine QK (y) (by omega) (by first | omega | (simp only [uP];omega)) ?_
    (conv=>whnf);refine ⟨by omega,?_⟩;(conv=>whnf);refine Es (by first | exact gs _ | exact Jb _ _ | assumption) ?_
    (conv=>whnf);refine QK (y+1) (by omega) (by first | omega | (simp only [uP];omega)) ?_
    (conv=>whnf);refine ⟨by omega,?_⟩;(conv=>whnf);rw [CI];(conv=>whnf);refine Es (by first | exact gs _ | exact Jb _ _ | assumption) ?_
    (conv=>whnf);refine aaH (y+1) (by omega) (by first | omega | (simp only [uP];omega)) ?_
    (conv=>whnf);refine ⟨by omega,?_⟩;(conv=>whnf);rw [CI];(conv=>whnf);refine Es (by first | exact gs _ | exact Jb _ _ | assumption) ?_
    (conv=>whnf);refine aaH (y) (by omega) (by first | omega | (simp only [uP];omega)) ?_
    (conv=>whnf);refine ⟨y,by omega,Sort.swp rS (y+1) y,by omega,by rw [ai_];exact Mg,?_,?_,?_,?_⟩
    ·intro x ak;obtain ⟨z,bk,bM⟩:=swp_get rS (y+1) y x (by omega) (by omega);rw [bM (by omega)];exact OD z (by omega)
    ·rw [←Mh,Sort.insInner,if_pos (by simp only [sO,decide_eq_true_eq];exact ⟨by omega,a6⟩)]
    ·rw [hw];rfl
    ·simp only [te];rfl
   ·rw [Bool.not_eq_true] at a6;rw [a6];(conv=>whnf);have e:Sort.insInner IA a i gZ=rS:=by
     rw [←Mh,Sort.insInner,if_neg (by simp only [sO,decide_eq_true_eq];exact fun bI=>by rw [a6] at bI;exact absurd bI.2 (by decide))]
    exact ⟨b+1-(i+1),by omega,i+1,rS,by omega,by omega,rfl,Mg,OD,by rw [←he,Sort.insOuter.eq_1 _ a b i,if_pos (by omega),e],by rw [←rJ i (by omega)];rfl,rfl⟩
  ·rw [decide_eq_false aG];(conv=>whnf);have e:Sort.insInner IA a i gZ=rS:=by
    rw [←Mh];cases j with
    | zero=>rfl
    | succ y=>rw [Sort.insInner,if_neg (by simp only [sO,decide_eq_true_eq];exact fun bI=>by omega)]
   exact ⟨b+1-(i+1),by omega,i+1,rS,by omega,by omega,rfl,Mg,OD,by rw [←he,Sort.insOuter.eq_1 _ a b i,if_pos (by omega),e],by rw [←rJ i (by omega)];rfl,rfl⟩
 ·conv=>whnf
  have e:Sort.insertionSort IA d a b=gZ:=by
   rw [←he];unfold Sort.insOuter;rw [if_neg (by omega)]
  rw [e];exact ⟨.inl rfl,⟨by simp,fun j o aw=>.inr aw⟩,rfl⟩
theorem ahy (d:Array (List Int)) (Kd:Int) (a3:d.size≤12) (ah:H[id]?=some (Ks g d)) (OE:∀ x,x<d.size→Li d[x]!) :
  Sem Go.Proofs.Tryz.prog (.fn 127) [I8 id d.size,hW 0,hW d.size,hW Kd,.func 103 [] []] H lo (.tuple []) (H.set id (Ks g (Sort.insertionSort IA d 0 d.size))):=by
 refine HB et Yh rfl ⟨by simp,fun j ad af=>by rw [sJ (by omega)]⟩ fun Q bp=>?_;unfold Uj;obtain ⟨Sb,J5⟩:∃ c,O7=c:=⟨_,rfl⟩;rw [J5];conv=>whnf
 refine .intro (fun m T H'=>T=Hc 148 [(0,I8 id d.size),(1,hW 0),(2,hW d.size),(3,hW Kd),(4,.func 103 [] []),(10,B true),(11,B true)]∧H'=H) 0 ⟨rfl,rfl⟩ ?_;rintro m T H' ⟨rfl,rfl⟩;subst J5;unfold O7;obtain ⟨a',cb⟩:∃ c,O6=c:=⟨_,rfl⟩;obtain ⟨Sa,L'⟩:∃ c,Uk=c:=⟨_,rfl⟩;rw [cb,L'];conv=>whnf
 rw [show IntKind.i64.wrap ((d.size:Int)-0)=(d.size:Int) by rw [Jn _ (by omega) (by omega)];omega,decide_eq_true (show (d.size:Int)≤12 by omega)];conv=>whnf
 subst cb;unfold O6;conv=>whnf
 refine ⟨_,_,HL (af1 bC d 0 d.size (by omega) (sP _) (sB _) ah OE),?_⟩;conv=>whnf
 exact bp _ _ _ ⟨.inr rfl,⟨rfl,fun j o aw=>.inr aw⟩,rfl⟩
end
theorem ai2 {H:List ar} {id lo g:Nat} (bC:lo≤id) (d:Array (List Int)) (a3:d.size≤12) (ah:H[id]?=some (Ks g d)) (OE:∀ x,x<d.size→Li d[x]!) :
  Sem Go.Proofs.Tryz.prog (.fn 102) [I8 id d.size,.func 103 [] []] H lo (.tuple []) (H.set id (Ks g (Sort.insertionSort IA d 0 d.size))):=by
 refine HB et Yb rfl ⟨by simp,fun j ad af=>by rw [sJ (by omega)]⟩ fun Q bp=>?_;unfold TV;conv=>whnf
 rw [show IntKind.u64.wrap (d.size:Int)=(d.size:Int) by rw [aaI];omega];refine ⟨by first | rfl | simp only [tJ,ux,Nv,ND,Nw,Ny,Nx,Nz,NG,NF,K_,NA,NB,NC,uj,uX],_,PF d.size a3,?_⟩
 conv=>whnf
 refine ⟨_,_,HL (ahy bC d (Sort.bitsLen d.size) a3 ah OE),?_⟩;conv=>whnf
 exact bp _ _ _ ⟨.inl rfl,⟨rfl,fun j o aw=>.inr aw⟩,rfl⟩
end Go.Proofs.YtfakoboiahbhaaaGreat.Ab


namespace Go.Proofs.YtfakoboiahbhaaaGreat.Ab
open Go
def acy:dd:={ ops:=[[],[{},{},{},{ takes:=[true] }],[{},{ takes:=[true] }],[{ takes:=[true] },{ takes:=[true],mode:=4 }],[{},{ takes:=[true] },{ takes:=[true] }],[{},{},{ takes:=[true] },{ takes:=[true,true] }],[{ takes:=[true] },{ takes:=[true] },{ takes:=[true] }],[{},{},{ takes:=[true,true] },{ takes:=[true] },{ takes:=[true] }],[{},{},{ mode:=6 },{ takes:=[true] }],[{},{},{ takes:=[true] },{ takes:=[true,true] },{ takes:=[true,true] }],[{ takes:=[true] },{ takes:=[true] },{ takes:=[true] }],[{},{},{ takes:=[true,true] },{ takes:=[true] }],[{ takes:=[true] },{ takes:=[true] },{ takes:=[true,true] },{ takes:=[true],mode:=4 }]],ia:=[(0,(qb false [0,2,3,2,35]))] }
noncomputable def TR:fW :=
 pZ [p1 30 0,p1 31 5,pY 32 7,qZ 33 30 31 1,⟨none,[.jh 33,.jh 32],none,none,.st 1⟩] (qK [pY 34 5,qU 35 34 1,pY 5 35])
noncomputable def TS:fW :=
 pZ [p1 26 1,p1 27 7,GC 28 [.sl 26,.sl 27] (.call 6),GC 29 [.Bt 28] (.un .not)] (.cond (.sl 29) TR .skip)
noncomputable def TT:fW :=
 .block 1 (pZ [p1 22 0,p1 23 6,qZ 24 22 23 1,qo 25 24,pY 7 25] TS)
noncomputable def Qv:fW :=
 .seq (pZ [p1 16 6,p1 17 0,qI 18 17,qT 19 16 18 .lss] (.cond (.sl 19) .skip (.exit 0))) (.seq TT (qK [pY 20 6,qU 21 20 1,pY 6 21]))
noncomputable def TU:fW :=
 pZ [pY 39 0, pY 40 5, GC 41 [.jh 39, .jh 40] (.Bh 1 false true false), GC 4 [.jh 41] (.other (Oper.mk (some 4) (Op.assign (Operand.tmp 41)) 41 "slices.go:254" (Array.mk [Edge.mk 2 Ground.data, Edge.mk 0 Ground.phase, Edge.mk 1 Ground.phase, Edge.mk 2 Ground.phase]) none) 4)] .ret
noncomputable def Qw:fW :=
 pZ [p1 36 0, p1 37 5, GC 38 [.jh 36, .jh 37] (.Bh 1 true false false), ⟨none, [.jh 38], none, none, .other (Oper.mk none (Op.call (Call.mk (Callee.builtin Builtin.clear) (Array.mk [Operand.tmp 38]) (Array.mk [41]))) 0 "slices.go:253" (Array.mk [Edge.mk 2 Ground.data]) none) 0⟩] TU
noncomputable def OX:fW :=
 .seq (pZ [p1 11 5, qA 12 11 (-1) .eql] (.cond (.sl 12) (pZ [pY 13 0, GC 4 [.jh 13] (.other (Oper.mk (some 4) (Op.assign (Operand.tmp 13)) 41 "slices.go:244" (Array.mk [Edge.mk 0 Ground.data, Edge.mk 0 Ground.phase]) none) 4)] .ret) .skip)) (.seq (pZ [p1 14 5, qU 15 14 1, pY 6 15] (.block 0 (.loop (some (qb false [0, 2, 3, 2, 35])) Qv))) Qw)
noncomputable def OY:fW :=
 pZ [p1 8 0,p1 9 1,GC 10 [.lT (.func 126 [] []),.sl 8,.sl 9] (.call 0),pY 5 10] OX
noncomputable def TQ:fW :=
 pZ [GC 4 [.lT (.ax [] 0 .full)] (.nil 1)] OY
theorem Ya:zE Go.Proofs.Tryz.prog acy 101=some (TQ,42,[.tmp 4]):=by kernel_rfl
end Go.Proofs.YtfakoboiahbhaaaGreat.Ab


namespace Go.Proofs.YtfakoboiahbhaaaGreat.Ab
open Go
set_option maxRecDepth 20000
set_option maxHeartbeats 4000000
theorem M9 {P:Program} {k:FuncId} {args:List I} {H H':List ar} {lo:Nat} {v:I} (aB:cj 8 v=true) (h:Sem P (.fn k) args H H.length v H'):oL P 0 lo (.fn k) args H v H:=by
 refine ⟨_,Ew h,?_⟩;have ca:bJ H' H.length H'.length 0 8 v=some v:=o' aB;simp only [e3,Ev,sx,ca,sD]
theorem afW {p:List Int→Bool}:∀ (l:List (List Int)) (i:Nat) (h:i<l.length),idxOf p (l.drop i) i=if p l[i]=true then (i:Int) else idxOf p (l.drop (i+1)) (i+1):=fun l i h=>by
 rw [tn h,idxOf]
theorem U4 (d:List (List Int)) {n:Int} {i:Nat} (aN:n=i) (h:i<d.length):(d.map oN)[0+n.toNat*1]?=some (oN d[i]):=by
 subst aN;simp [h]
section
variable {id lo g:Nat} {H:List ar} {Hu:FuncId} {sf cs:List I} {p:List Int→Bool} {d:List (List Int)}
theorem afX (aP:sf.map (ir H)=cs) (Nh:cs.map I.cr=cs) (CQ:cs.all (cj 8)=true) (a3:d.length≤1000) (av:∀ r∈d,qB Hu (oN r::cs) (B (p r))) (ah:H[id]?=some (.grow (d.map oN) g 1)) :
  Sem Go.Proofs.Tryz.prog (.fn 126) [.ref id 0 d.length none 1,.func Hu [] sf] H lo (hW (idxOf p d 0)) H:=by
 refine HB et Yg rfl ⟨sB _,fun j _ _=>rfl⟩ fun Q bp=>?_;unfold Ui;conv=>whnf
 refine .intro (fun m T H'=>∃ i,i≤d.length∧m=d.length-i∧idxOf p d 0=idxOf p (d.drop i) i∧T=[.ref id 0 d.length none 1,.func Hu [] sf,r1,r1,r1,r1,r1,hW d.length,hW i,r1,r1,r1,r1,r1,r1,r1,r1,r1,r1]∧H'=H) d.length ⟨0,by omega,by omega,rfl,rfl,rfl⟩ ?_;rintro m T H' ⟨i,hi,rfl,he,rfl,rfl⟩;conv=>whnf
 refine Ip (fun h=>?_) (fun h=>?_)
 ·have aS:i<d.length:=by omega
  rw [afW d i aS] at he;conv=>whnf
  refine ⟨by omega,?_⟩;conv=>whnf
  refine Es ah ?_;conv=>whnf
  refine Es (U4 d rfl aS) ?_;conv=>whnf
  refine ⟨_,_,call6 (bs:=oN d[i]::cs) ?_ ?_ (av _ (sU aS)) rfl,?_⟩
  ·show (_::sf.map (ir H')).map I.cr=_;rw [aP,sG,Nh];rfl
  ·show (_::sf.map (ir H')).all (cj 8)=true;rw [aP];exact p2 (r7 (fun _=>rfl) _ _ _) CQ
  conv=>whnf
  cases aB:p d[i] with
  | true =>
    (conv=>whnf);rw [aB,if_pos rfl] at he;exact bp _ _ _ ⟨.inr rfl,⟨rfl,fun j o aw=>.inr aw⟩,by rw [he];rfl⟩
  | false =>
    (conv=>whnf);rw [aB,if_neg (by simp)] at he;exact ⟨d.length-(i+1),by omega,i+1,by omega,rfl,he,by rw [←rJ i (by omega)] <;> rfl,rfl⟩
 ·obtain rfl:i=d.length:=by omega
  rw [List.drop_length] at he;conv=>whnf
  exact bp _ _ _ ⟨.inr rfl,⟨rfl,fun j o aw=>.inr aw⟩,by rw [he];rfl⟩
end
theorem WR {P:Program} {C:b8} {lo id gid n:Nat} {o:Oper} {x:Operand} {H:List ar} {l:List I} (aq:o.op=.assign x) (bC:lo≤id) (ah:H[id]?=some (.grow l gid 1)) (aN:n≤l.length) (aB:(l.take n).all I.plain=true) :
  a5 P C lo o 4 [.cl id gid n 1] H=some (.ax (l.take n) n (.uniq 1),H.set id .dead):=by
 unfold a5;rw [aq];show eY P lo 4 o.type x H [.cl id gid n 1]=_;unfold eY;simp only [bC,if_true,ah];rw [if_pos ⟨trivial,trivial,by omega,by rw [ud];exact aB⟩,ud]
theorem Za (l:List (List Int)) (n:Nat):((l.map oN).take n).all I.plain=true:=by
 rw [sR];intro u hu;obtain ⟨x,_,rfl⟩:=sM.1 (List.mem_of_mem_take hu);rfl
theorem ad4 {P:Program} {lo id off len:Nat} {H:List ar} {l:List I} {g:Nat} {cap:Option Nat} {e:TypeId} {ts:Array TypeId} (e1:(ts[0]?).bind P.underlying=some (.slice e)) (ca:bD P e=some 1) {z:I} (dx:zeroCells P e=some [z]) (bC:lo≤id)
  (ah:H[id]?=some (.grow l g 1)) (aN:off+len≤l.length):k4 P lo ts H [.ref id off len cap 1]=some (.tuple [],H.set id (.grow (setCells off (e8 len [z]) l) g 1)):=by
 unfold k4;simp only [e1,ca,dx,hg,ah,sD,if_pos bC];rw [if_pos ⟨trivial,rfl,by decide⟩,if_pos (by omega)];rfl
theorem W5 {off len:Nat} {l:List I} {z:I} (aN:off+len≤l.length):(setCells off (e8 len [z]) l).take off=l.take off:=by
 apply ui;intro j;rw [tp,tp];split
 ·rw [m5 _ _ _ _ (by rw [ik];simp;omega),if_neg (by omega)]
 ·rfl
theorem ad5 {off len:Nat} {l:List I} {z:I}:(setCells off (e8 len [z]) l).length=l.length:=ln _ _ _
theorem X2 {α:Type} (p:α→Bool):∀ (l:List α) (i:Nat),(idxOf p l i=-1∧∀ x∈l,p x=false)∨∃ k,∃ h:k<l.length,idxOf p l i=((i+k:Nat):Int)∧p l[k]=true∧∀ x∈l.take k,p x=false
 | [],i=>.inl ⟨rfl,fun x ak=>absurd ak (by simp)⟩
 | x::l,i=>by
   rw [idxOf];cases ak:p x with
   | true=>rw [if_pos rfl];exact .inr ⟨0,by simp,by simp,ak,fun y aZ=>absurd aZ (by simp)⟩
   | false =>
     rw [if_neg (by simp)];rcases X2 p l (i+1) with ⟨ad,af⟩ | ⟨k,av,ad,af,aG⟩
     ·exact .inl ⟨ad,fun y aZ=>by rcases sL.1 aZ with rfl | aZ;exact ak;exact af y aZ⟩
     ·refine .inr ⟨k+1,by simp;omega,by rw [ad];omega,af,fun y aZ=>?_⟩;rw [vo] at aZ;rcases sL.1 aZ with rfl | aZ
      ·exact ak
      ·exact aG y aZ
theorem Xi {p:List Int→Bool} {l:List (List Int)} (h:∀ x∈l,p x=false):l.filter (fun r=>!p r)=l:=List.filter_eq_self.2 fun x ak=>by rw [h x ak];rfl
section
variable {id lo g:Nat} {H:List ar} {Hu:FuncId} {sf cs:List I} {p:List Int→Bool} {d:List (List Int)}
theorem aej (bC:lo≤id) (aP:∀ c:ar,sf.map (ir (H.set id c))=cs) (Nh:cs.map I.cr=cs) (CQ:cs.all (cj 8)=true) (a3:d.length≤1000) (av:∀ r∈d,qB Hu (oN r::cs) (B (p r))) (ah:H[id]?=some (.grow (d.map oN) g 1)) :
  Sem Go.Proofs.Tryz.prog (.fn 101) [.cl id g d.length 1,.func Hu [] sf] H lo (.ax ((d.filter fun r=>!p r).map oN) (d.filter fun r=>!p r).length (.uniq 1)) (H.set id .dead):=by
 have aE:=(sv.1 ah).1;refine HB et Ya rfl ⟨by simp,fun j ad af=>by rw [sJ (by omega)]⟩ fun Q bp=>?_;have gs:∀ c:ar,(H.set id c)[id]?=some c:=fun c=>by rw [sI aE]
 obtain ⟨Lh,gF⟩:∃ Lh,Lh=H:=⟨H,rfl⟩;rw [show H=Lh.set id (.grow (d.map oN) g 1) by rw [gF];exact (aiV bC ah).symm];rw [←gF] at gs aP bp;unfold TQ;obtain ⟨nm,Hi⟩:∃ c,OY=c:=⟨_,rfl⟩;rw [Hi];conv=>whnf
 subst Hi;unfold OY;obtain ⟨nk,HC⟩:∃ c,OX=c:=⟨_,rfl⟩;rw [HC];conv=>whnf
 refine ⟨_,_,M9 rfl (afX (aP _) Nh CQ a3 av (gs _)),?_⟩;conv=>whnf
 subst HC;unfold OX;obtain ⟨fZ,Hg⟩:∃ c,Qw=c:=⟨_,rfl⟩;obtain ⟨b9,iF⟩:∃ c,Qv=c:=⟨_,rfl⟩;rw [Hg,iF];rcases X2 p d 0 with ⟨hi,eV⟩ | ⟨k,C_,hi,afE,eV⟩
 ·rw [hi];conv=>whnf
  refine ⟨_,_,fun C=>WR rfl bC (gs _) (by simp) (Za _ _),?_⟩;rw [te];conv=>whnf
  refine bp _ _ _ ⟨.inr rfl,⟨rfl,fun j o aw=>.inr aw⟩,?_⟩;rw [Xi eV];show some (I.ax ((d.map oN).take d.length) d.length (.uniq 1))=_;rw [uB (by simp)]
 ·rw [hi];rw [tg];conv=>whnf
  rw [rJ k (by omega)];refine .intro (fun m T H'=>∃ (i j:Nat) (s:List (List Int)),i<j∧j≤d.length∧m=d.length-j∧s.length=d.length∧s.take i=(d.take j).filter (fun r=>!p r)∧s.drop j=d.drop j∧T=Hc 42 [(0,.cl id g d.length 1),(1,.func Hu [] sf),(5,hW i),(6,hW j)]∧H'=Lh.set id (.grow (s.map oN) g 1)) (d.length-(k+1)) ⟨k,k+1,d,by omega,by omega,rfl,rfl,?_,rfl,rfl,rfl⟩ ?_
  ·rw [tT C_,uy,Xi eV];simp [afE]
  rintro m T H' ⟨i,j,s,g5,aw,rfl,ai,ay,Td,rfl,rfl⟩;subst iF;unfold Qv;obtain ⟨bt,er⟩:∃ c,TT=c:=⟨_,rfl⟩;rw [er];conv=>whnf
  refine Ip (fun h=>?_) (fun h=>?_)
  ·(have aS:j<d.length:=by omega);have Nk:s[j]'(by omega)=d[j]:=by
    have:=congrArg (fun l=>l[0]?) Td;simpa [tr,aS,ai] using this
   (conv=>whnf);subst er;unfold TT;obtain ⟨bb,b6⟩:∃ c,TS=c:=⟨_,rfl⟩;rw [b6];(conv=>whnf);refine ⟨by omega,?_⟩;(conv=>whnf);refine Es (gs _) ?_;(conv=>whnf);refine Es (U4 s rfl (by omega)) ?_;rw [Nk];(conv=>whnf);subst b6;unfold TS;obtain ⟨a',cb⟩:∃ c,TR=c:=⟨_,rfl⟩;rw [cb];(conv=>whnf);refine ⟨_,_,call6 (bs:=oN d[j]::cs) ?_ ?_ (av _ (sU aS)) rfl,?_⟩
   ·show (_::sf.map (ir _)).map I.cr=_;rw [aP,sG,Nh];rfl
   ·show (_::sf.map (ir _)).all (cj 8)=true;rw [aP];exact p2 (r7 (fun _=>rfl) _ _ _) CQ
   (conv=>whnf);have P5:(d.take (j+1)).filter (fun r=>!p r)=(d.take j).filter (fun r=>!p r)++[d[j]].filter (fun r=>!p r):=by
    rw [tT aS,uy]
   cases aB:p d[j] with
   | true =>
     (conv=>whnf);refine ⟨d.length-(j+1),by omega,i,j+1,s,by omega,by omega,rfl,ai,?_,?_,by rw [←rJ j (by omega)] <;> rfl,rfl⟩
     ·rw [P5,ay];simp [aB]
     ·have:=congrArg (List.drop 1) Td;simpa [List.drop_drop,tC] using this
   | false =>
     (conv=>whnf);subst cb;unfold TR;refine I5 fun nc Hv=>?_;(conv=>whnf);refine ⟨by omega,?_⟩;(conv=>whnf);rw [show Nat.ble lo id=true from uF bC];(conv=>whnf);refine Es (gs _) ?_;(conv=>whnf);refine Gm (by simp;omega) ?_;(conv=>whnf);rw [te];refine Hv _ _ _ ?_;(conv=>whnf);refine ⟨d.length-(j+1),by omega,i+1,j+1,s.set i d[j],by omega,by omega,rfl,by simpa using ai,?_,?_,by rw [←rJ j (by omega),←rJ i (by omega)] <;> rfl,?_⟩
     ·rw [P5,←ay,tT (by rw [List.length_set];omega),List.getElem_set_self,List.take_set_of_le (sB _)];simp [aB]
     ·rw [List.drop_set_of_lt (by omega)];have:=congrArg (List.drop 1) Td;simpa [List.drop_drop,tC] using this
     ·rw [show 0+(i:Int).toNat*1=i by simp,vi];rfl
  ·(obtain rfl:j=d.length:=by omega);rw [List.take_length] at ay;(have rn:i=(d.filter fun r=>!p r).length:=by rw [←ay,tf];omega);(conv=>whnf);subst Hg;unfold Qw;obtain ⟨dY,Cs⟩:∃ c,TU=c:=⟨_,rfl⟩;rw [Cs];(conv=>whnf);refine ⟨rfl,⟨by omega,by omega⟩,fun aS=>?_,fun heq=>absurd heq (by omega)⟩;(conv=>whnf);refine ⟨_,_,fun C=>(OT rfl).trans (ad4 (e:=38) (z:=.ax [] 0 .full) (by kernel_rfl) (by kernel_rfl) (by kernel_rfl) bC (gs _) (by simp;omega)),?_⟩;rw [te];(conv=>whnf);subst Cs;unfold TU;(conv=>whnf);refine ⟨⟨by omega,by omega⟩,?_⟩;(conv=>whnf);refine ⟨_,_,fun C=>WR rfl bC (gs _) ?_ ?_,?_⟩
   ·rw [ad5];simp;omega
   ·rw [show 0+(i:Int).toNat*1=(i:Int).toNat by omega,W5 (by simp;omega)];exact Za _ _
   rw [te];(conv=>whnf);refine bp _ _ _ ⟨.inr rfl,⟨rfl,fun j o aw=>.inr aw⟩,?_⟩;show some (I.ax (List.take (i:Int).toNat _) (i:Int).toNat (.uniq 1))=_;rw [show 0+(i:Int).toNat*1=(i:Int).toNat by omega,W5 (by simp;omega),Int.toNat_natCast,←ur,ay,←rn]
end

theorem X5 {α:Type} [Inhabited α] (lt:α→α→Bool) (d:Array α) (a b:Nat):(Sort.insertionSort lt d a b).size=d.size:=by
 have ai9:∀ (d:Array α) (i j:Nat),(Sort.swp d i j).size=d.size:=fun d i j=>by simp [Sort.swp]
 have kx:∀ (j:Nat) (d:Array α),(Sort.insInner lt a j d).size=d.size:=fun j=>by
  induction j with
  | zero=>intro d;rfl
  | succ j a_ =>
    intro d;rw [Sort.insInner];split
    ·rw [a_,ai9]
    ·rfl
 show (Sort.insOuter lt a b (a+1) d).size=d.size
 have:∀ (n i:Nat) (d:Array α),b-i=n→(Sort.insOuter lt a b i d).size=d.size:=fun n=>by
  induction n with
  | zero=>intro i d h;rw [Sort.insOuter.eq_1,if_neg (by omega)]
  | succ n a_=>intro i d h;rw [Sort.insOuter.eq_1,if_pos (by omega),a_ _ _ (by omega),kx]
 exact this _ _ d rfl
def Hq (l:List Int):List Int:=(Sort.insertionSort Sort.ltInt l.toArray 0 l.length).toList
theorem QT (l:List Int):(Hq l).length=l.length:=by
 unfold Hq;rw [tQ,X5];simp
theorem Zu {H:List ar} {id lo n:Nat} (l:List Int) (bC:lo≤id) (ao:l.length≤12) (aN:n=l.length) (ah:H[id]?=some (.cells (l.map hW))) :
  Sem Go.Proofs.Tryz.prog (.fn 73) [.ref id 0 n none 1] H lo (.tuple []) (H.set id (.cells ((Hq l).map hW))):=by
 subst aN;have:=aiW bC l.toArray (by simpa using ao) (by simpa [Kr] using ah);simpa [Kr,I8,Hq] using this
def Jl (l:List (List Int)):List (List Int):=(Sort.insertionSort IA l.toArray 0 l.length).toList
theorem U9 (l:List (List Int)):(Jl l).length=l.length:=by
 unfold Jl;rw [tQ,X5];simp
def NL (l:List Int):Bool:=!l.isEmpty && decide (0≤ix l 0) && decide (ix l 0≤1000)
theorem aiK {l:List Int} (h:NL l=true):Li l:=by
 simp only [NL,sO,decide_eq_true_eq] at h;exact ⟨by intro e;subst e;simp at h,h.1.2,h.2⟩
theorem ai5 {H:List ar} {id lo n g:Nat} (l:List (List Int)) (bC:lo≤id) (ao:l.length≤12) (aj:l.all NL=true) (aN:n=l.length) (ah:H[id]?=some (.grow (l.map oN) g 1)) :
  Sem Go.Proofs.Tryz.prog (.fn 102) [.ref id 0 n none 1,.func 103 [] []] H lo (.tuple []) (H.set id (.grow ((Jl l).map oN) g 1)):=by
 subst aN
 have:=ai2 bC l.toArray (by simpa using ao) (g:=g) (by simpa [Ks] using ah) (fun x ak=>by
  have ak:x<l.length:=by simpa using ak
  have:=sR.1 aj l[x] (sU ak);have e:l.toArray[x]! = l[x]:=by simp [ak]
  rw [e];exact aiK this)
 simpa [Ks,I8,Jl] using this
def L8 (f:List Int→Option Bool):List (List Int)→Option (List (List Int))
 | []=>some []
 | r::l=>(f r).bind fun b=>(L8 f l).bind fun l'=>some (if b=true then l' else r::l')
theorem W' {f:List Int→Option Bool}:∀ {l R:List (List Int)},L8 f l=some R→∃ p:List Int→Bool,(∀ r∈l,f r=some (p r))∧R=l.filter fun r=>!p r
 | l,R,h=>by
   refine ⟨fun r=>(f r).getD false,?_⟩
   induction l generalizing R with
   | nil=>exact ⟨fun r aj=>absurd aj (by simp),(Option.some.inj h).symm⟩
   | cons r l a_ =>
     obtain ⟨b,ag,h⟩:=qm h;obtain ⟨l',c9,h⟩:=qm h;obtain rfl:=Option.some.inj h;obtain ⟨i1,i2⟩:=a_ _ c9;refine ⟨fun x ak=>?_,?_⟩
     ·rcases sL.1 ak with rfl | ak
      ·show f x=some ((f x).getD false);rw [ag];rfl
      ·exact i1 x ak
     ·(have e:(f r).getD false=b:=by rw [ag];rfl);rw [List.filter_cons];show _=if (!(f r).getD false)=true then _ else _;rw [e,←i2];cases b <;> rfl
section
variable {id lo g n:Nat} {H:List ar} {Hu:FuncId} {sf cs:List I} {f:List Int→Option Bool} {l R:List (List Int)}
theorem aei (h:L8 f l=some R) (bC:lo≤id) (aP:∀ c:ar,sf.map (ir (H.set id c))=cs) (Nh:cs.map I.cr=cs) (CQ:cs.all (cj 8)=true) (a3:l.length≤1000) (aN:n=l.length) (av:∀ r b,f r=some b→qB Hu (oN r::cs) (B b)) (ah:H[id]?=some (.grow (l.map oN) g 1)) :
  Sem Go.Proofs.Tryz.prog (.fn 101) [.cl id g n 1,.func Hu [] sf] H lo (.ax (R.map oN) R.length (.uniq 1)) (H.set id .dead):=by
 subst aN;obtain ⟨p,aB,rfl⟩:=W' h;exact aej bC aP Nh CQ a3 (fun r aj=>av r _ (aB r aj)) ah
end
section
variable {H:List ar} {lo:Nat}
theorem af0 {F:I}:Sem Go.Proofs.Tryz.prog (.fn 138) [.ax [] 0 .full,hW 0,hW 0,F] H lo (.tuple []) H:=by
 refine HB et Yi rfl (bc.refl _ _) fun Q bp=>?_;unfold Uo;conv=>whnf
 refine .intro (fun m T H'=>T=Hc 53 [(0,.ax [] 0 .full),(1,hW 0),(2,hW 0),(3,F),(8,hW 1)]∧H=H') 0 ⟨rfl,rfl⟩ ?_;rintro m T H' ⟨rfl,rfl⟩;conv=>whnf
 exact bp _ _ _ ⟨.inl rfl,⟨by simp,fun j o aw=>.inr aw⟩,rfl⟩
theorem ahv {Kd:Int} {k:FuncId} {cap:List I}:Sem Go.Proofs.Tryz.prog (.fn 127) [.ax [] 0 .full,hW 0,hW 0,hW Kd,.func k [] cap] H lo (.tuple []) H:=by
 refine HB et Yh rfl (bc.refl _ _) fun Q bp=>?_;unfold Uj;obtain ⟨Sb,J5⟩:∃ c,O7=c:=⟨_,rfl⟩;rw [J5];conv=>whnf
 refine .intro (fun m T H'=>T=Hc 148 [(0,.ax [] 0 .full),(1,hW 0),(2,hW 0),(3,hW Kd),(4,.func k [] cap),(10,B true),(11,B true)]∧H'=H) 0 ⟨rfl,rfl⟩ ?_;rintro m T H' ⟨rfl,rfl⟩;subst J5;unfold O7;obtain ⟨a',cb⟩:∃ c,O6=c:=⟨_,rfl⟩;obtain ⟨Sa,L'⟩:∃ c,Uk=c:=⟨_,rfl⟩;rw [cb,L'];conv=>whnf
 subst cb;unfold O6;conv=>whnf
 refine ⟨_,_,HL af0,?_⟩;conv=>whnf
 exact bp _ _ _ ⟨.inr rfl,⟨rfl,fun j o aw=>.inr aw⟩,rfl⟩
theorem ai1 {k:FuncId} {cap:List I}:Sem Go.Proofs.Tryz.prog (.fn 102) [.ax [] 0 .full,.func k [] cap] H lo (.tuple []) H:=by
 refine HB et Yb rfl (bc.refl _ _) fun Q bp=>?_;unfold TV;conv=>whnf
 refine ⟨by first | rfl | simp only [tJ,ux,Nv,ND,Nw,Ny,Nx,Nz,NG,NF,K_,NA,NB,NC,uj,uX],_,PF 0 (by decide),?_⟩
 conv=>whnf
 refine ⟨_,_,HL ahv,?_⟩;conv=>whnf
 exact bp _ _ _ ⟨.inl rfl,⟨by simp,fun j o aw=>.inr aw⟩,rfl⟩
theorem afV {k:FuncId} {cap:List I}:Sem Go.Proofs.Tryz.prog (.fn 126) [.ax [] 0 .full,.func k [] cap] H lo (hW (-1)) H:=by
 refine HB et Yg rfl (bc.refl _ _) fun Q bp=>?_;unfold Ui;conv=>whnf
 refine .intro (fun m T H'=>T=[.ax [] 0 .full,.func k [] cap,r1,r1,r1,r1,r1,hW 0,hW 0,r1,r1,r1,r1,r1,r1,r1,r1,r1,r1]∧H'=H) 0 ⟨rfl,rfl⟩ ?_;rintro m T H' ⟨rfl,rfl⟩;conv=>whnf
 exact bp _ _ _ ⟨.inr rfl,⟨rfl,fun j o aw=>.inr aw⟩,rfl⟩
theorem aeg {k:FuncId} {cap:List I}:Sem Go.Proofs.Tryz.prog (.fn 101) [.ax [] 0 .full,.func k [] cap] H lo (.ax [] 0 .full) H:=by
 refine HB et Ya rfl (bc.refl _ _) fun Q bp=>?_;unfold TQ;obtain ⟨nm,Hi⟩:∃ c,OY=c:=⟨_,rfl⟩;rw [Hi];conv=>whnf
 subst Hi;unfold OY;obtain ⟨nk,HC⟩:∃ c,OX=c:=⟨_,rfl⟩;rw [HC];conv=>whnf
 refine ⟨_,_,M9 rfl afV,?_⟩;conv=>whnf
 subst HC;unfold OX;obtain ⟨fZ,Hg⟩:∃ c,Qw=c:=⟨_,rfl⟩;obtain ⟨b9,iF⟩:∃ c,Qv=c:=⟨_,rfl⟩;rw [Hg,iF];conv=>whnf
 refine ⟨_,_,fun C=>rfl,?_⟩;conv=>whnf
 exact bp _ _ _ ⟨.inr rfl,⟨rfl,fun j o aw=>.inr aw⟩,rfl⟩
end
end Go.Proofs.YtfakoboiahbhaaaGreat.Ab


namespace Go.Proofs.YtfakoboiahbhaaaGreat.Ab
open Go
noncomputable def UG:fW :=
 .oj false [pY 30 9,pY 31 11,GC 32 [.jh 30,.jh 31] (.app 1 8),pY 9 32]
noncomputable def QC:fW :=
 .block 3 (pZ [GC 25 [.sl 21,.sl 23] (.kR 1),qo 26 25,pY 11 26] (pZ [p1 27 8,p1 28 11,GC 29 [.sl 27,.sl 28] (.call 6)] (.cond (.sl 29) UG .skip)))
noncomputable def UH:fW :=
 .oj false [pY 36 5, pY 37 8, GC 38 [.lT (.func 101 [] []), .jh 36, .jh 37] (.call 1), ⟨some 39, [.jh 9], none, some 9, .other (Oper.mk (some 39) (Op.move (Operand.tmp 9)) 38 "table.go:86" (Array.mk []) none) 2⟩, GC 40 [.Bt 39] (.yv 1 1 [.ax [] 0 .full] [0]), GC 41 [.jh 38, .jh 40] (.yl 1 24), pY 5 41]
noncomputable def NJ:fW :=
 .loop (some (qb false [2,1,2,1,2,2,2,3,6,3,22])) (pZ [GC 24 [.sl 23,.sl 22] (.bin .lss)] (.seq (.cond (.sl 24) .skip (.exit 2)) (.seq QC (qK [qU 33 23 1,pY 23 33]))))
noncomputable def QE:fW :=
 pZ [⟨some 34,[.jh 9],none,some 9,.Br⟩,GC 35 [.lT (.func 73 [] []),.jh 34] (.call 1)] UH
noncomputable def UI:fW :=
 .seq (pZ [p1 21 5,GC 22 [.sl 21] .zD,qd 23 0] (.block 2 NJ)) QE
noncomputable def UJ:fW :=
 pZ [GC 18 [.sl 2,.sl 7] (.zS 98 0 2),pY 8 18] (pZ [qo 19 7,GC 20 [.Bt 19] (.yv 1 1 [.int .i64 0] [0]),pY 9 20] UI)
noncomputable def UK:fW :=
 .block 1 (pZ [GC 16 [.sl 12,.sl 14] (.kR 1),qo 17 16,GC 7 [] (.alloc [.int .i64 0]),⟨none,[.sl 7,.jh 17],none,none,.st 1⟩] UJ)
noncomputable def UL:fW :=
 pZ [p1 43 5, GC 44 [.lT (.func 102 [] []), .jh 43, .lT (.func 103 [] [])] (.call 1)] (pZ [⟨some 45, [.jh 5], none, some 5, .other (Oper.mk (some 45) (Op.move (Operand.tmp 5)) 41 "table.go:89" (Array.mk []) none) 2⟩, pY 4 45] .ret)
noncomputable def QD:fW :=
 .loop (some (qb false [2,1,2,1,6,3,31])) (pZ [GC 15 [.sl 14,.sl 13] (.bin .lss)] (.seq (.cond (.sl 15) .skip (.exit 0)) (.seq UK (qK [qU 42 14 1,pY 14 42]))))
noncomputable def UM:fW :=
 .seq (pZ [pY 12 1,GC 13 [.sl 12] .zD,qd 14 0] (.block 0 QD)) UL
noncomputable def Y2:fW :=
 pZ [GC 2 [.jh 0] .box,GC 4 [.lT (.ax [] 0 .full)] (.nil 1)] (pZ [GC 5 [.lT (.ax [] 0 .full)] .Br] UM)
theorem age:zE Go.Proofs.Tryz.prog M6 79=some (Y2,46,[.tmp 4]):=by kernel_rfl
end Go.Proofs.YtfakoboiahbhaaaGreat.Ab
