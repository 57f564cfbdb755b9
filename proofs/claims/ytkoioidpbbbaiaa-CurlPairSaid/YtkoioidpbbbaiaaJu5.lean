
import Derived.Test.YtkoioidpbbbaiaaJu1
import Derived.Test.YtkoioidpbbbaiaaJu4
import Derived.Test.YtkoioidpbbbaiaaProg
import Derived.KernelRfl
import Derived.IntWalk
import Derived.ProofKit
import Derived.Deep.Slices
import Derived.ChangeStays
import Derived.Below
import Derived.WalkKit
set_option linter.unusedSimpArgs false
set_option linter.unusedVariables false
set_option linter.unusedSectionVars false

open Bool renaming and_eq_true→sn,false_eq_true→tS
open Classical renaming choose_spec→uC
open Int renaming add_zero→uZ
open List renaming all_eq_true→sr,append_assoc→sx,append_nil→sN,drop_eq_getElem_cons→s9,drop_zero→tt,flatMap_cons→uE,getElem?_append→ss,getElem?_append_left→sj,getElem?_append_right→sv,getElem?_drop→sU,getElem?_eq_getElem→sk,getElem?_eq_some_iff→sd,getElem?_map→sq,getElem?_take→sL,length_append→sE,length_cons→sM,length_eq_zero_iff→sP,length_map→s6,length_take→te,map_append→sT,map_congr_left→tN,map_cons→sI,map_drop→tL,map_id→uX,map_map→vC,map_nil→uD,mem_append_left→vF,mem_append_right→vE,mem_cons_of_mem→tV,mem_cons_self→tZ,mem_flatMap→tO,mem_iff_getElem?→sZ,mem_map→sD,mem_range→sJ,perm_cons_erase→vJ,take_of_length_le→tf
open Nat renaming add_comm→ti,add_mul→td,eq_of_beq_eq_true→sR,le_refl→se,lt_succ_self→sC,mul_one→tr,zero_add→sG,zero_le→sH
open Option renaming bind_some→sc,map_some→sg
namespace Go.Proofs.Ytkoioidpbbbaiaa.Ab
open Go
abbrev p1:bY:={ cz:=[true] }
abbrev p8:bY:={ cz:=[true,true] }
def p7 (l:List Nat):List bY:=l.map fun n=>match n with
 | 0=>{}
 | 1=>p1
 | _=>p8
def aaS:dt:={ ops:=[[{ mode:=3 }]] }
def Uk:dt:={ ops:=[[p1],[{},{ mode:=3 },p1,{},p1,p1,{ cz:=[true,false,true] }],[{ mode:=3 },p1],[{},{},{},{ mode:=3 },p1,{},{},p1,p1,p1,p1],[{},{},p1,{ mode:=3 },p1,{},{},p1,p1,p1,p1],[{},{},{ mode:=3 },p1,{},p1,p1,p1],[{},p1,{ mode:=3 },p1,{},p1,p1,p1],[{},{ mode:=3 },{},{ mode:=3 },p8,p1,p1,p1,p8,{ cz:=[false,true] },p1,p1,p1,p8,{ cz:=[false,true] },p1,p1,p1,p8,{ cz:=[false,true] },p1,p1,p1,p8,{ cz:=[false,true] },p1,p1,p1,p8,{ cz:=[false,true] },p1,{ mode:=3 },{ cz:=[false,true] },p1]] }
def Rg:dt:={ ops:=[[p1],[{},{ mode:=3 },p1,p1,{},p1,p1,{ cz:=[true,false,true] }],[{ mode:=3 },p1],[{},p1,p1,p1,{ mode:=3 },p1],[],(p7 [0,1,1,1]),[{},p1],(p7 [1,1,1]),(p7 [1,0,0,2,1,1,2,1]),(p7 [0,1,1,1,1,0,1,1,0,1,1,2,1,2,2,1]),[{},{},{},{ mode:=3 },p1,{},{},p1,p1,p1,p1],[{},{},p1,{ mode:=3 },p1,{},{},p1,p1,p1,p1],[{},{},{ mode:=3 },p1,{},p1,p1,p1],[{},{},{ mode:=3 },p1,{},p1,p1,p1],[{},{ mode:=3 },p1,{},p1,p1,p1],[{},p1,{ mode:=3 },p1,{},p1,p1,p1],[p1,p1,{ mode:=3 },p1,{},p1,p1,p1],[p1,p1,p1,p1,p1,p8,p1,p1,p1,p1,p8,p8,p1,p1,p1,p1,p8,p8,p1,p1,p1,p8,p1,p1,p1,p8,p1,p1,p1,p8,p8,p1,p1,p1,p8,p1,p1,p1,p1,p8,p1,p1,p1,p8,p1,p1,p1,p8,p1,p1,p1,p8,p8,p1,{ mode:=3 },p8,p1]],ih:=[(0,(qc false [2,2,3,3,161]))] }
def UA:dt:={ ops:=[[p1],[{},{ mode:=3 },p1,p1,{},p1,p1,{ cz:=[true,false,true] },p1,{},p1,p1,{ cz:=[true,false,true] }],[{ mode:=3 },p1],[{},p1,p1,p1,{ mode:=3 },p1],[{},{},{ mode:=3 },p1,{},p1,p1,p1],[{},{},{ mode:=3 },p1,{},p1,p1,p1],[{},{},{ mode:=3 },p1,{},p1,p1,p1],[p1,p1,p1,p1,p1,{ cz:=[true,false,true] },p1,p1,p1,{ cz:=[true,false,true] },p1,{},p1,{},p8,{ cz:=[true,false,true] },p1,{},{},p1,p1,p8,{ cz:=[true,false,true] },p1,{},p1,p1,p1,p8,{ cz:=[true,false,true] }],[],[{},{},{},{ mode:=3 },p1,{},p1,p1,p1],[{},{},p1,{ mode:=3 },p1,{},p1,p1,p1],[p1,p1,p1,p1,p1,{ cz:=[true,false,true] },p1,p1,{},p8,{ cz:=[true,false,true] },p1,p1,{},p8,{ cz:=[true,false,true] }],[],[{},{},{},{ mode:=3 },p1,{},p1,p1,p1],[{},p1],[{},p1,p1,p1,p1,{ cz:=[true,false,true] },p1,{ mode:=3 },p8,p1],[p1,p1,{},{ mode:=3 },p1,{},p1,p1,p1],[p1,p1,p1,p1,{},p8,p8,p1,{},p1,p1,p8,p8,p1,p1,p1,p8,p8,p1,{ mode:=3 },p8,p1]] }
def Rm:dt:={ ops:=[[p1],[{},{ mode:=3 },p1,p1,{},p1,p1,{ cz:=[true,false,true] }],[{ mode:=3 },p1],(p7 [0,1,1,1]),[{},p1,{ mode:=3 },p1],[{},{ mode:=3 },p1,{},p1,p1,p1],[{},{ mode:=3 },p1,{},p1,p1,p1],[{},{},{ mode:=3 },p1,{},p1,p1,p1],[p1,p1,{ mode:=3 },p1,{},p1,p1,p1],[p1,p1,p1,p1,p1,{ cz:=[true,false,true] },p1,p1,p1,{ cz:=[true,false,true] },p1,p1,p1,{ cz:=[true,false,true] },p1,{},p1,{},p8,{ cz:=[true,false,true] },p1,{},p1,{},p8,{ cz:=[true,false,true] }],[],[],(p7 [0,0,1,2]),(p7 [1,1,1]),[{},{},p8,p1,p1,p1,{},{},p8,p1,{},p8,{ cz:=[false,false,true] },p1,{},p1,p1,{},{},p8,p1,{},{},p1,p8,p1,p8,{ cz:=[false,true] },{ cz:=[false,false,true] }],[],[p1,p1,p1,{},p1,p1,p8,p8,p1,{},p1,p1,p1,{},p1,p8,{ cz:=[true,false,true] }],[],[p1,p1,p1,p1,p1,p1,p1,p1,{ mode:=3 },{ cz:=[true,false,true] },p1,{ mode:=3 },p8,p1]],ih:=[(0,(qc false [5,1,1,1,1,1,1,1,1,1,1,1,128]))] }
def NQ:dt:={ ops:=[[p1],[{},{ mode:=3 },p1,p1,{},p1,p1,{ cz:=[true,false,true] }],[{ mode:=3 },p1],(p7 [0,1,1,1]),[{},p1,{ mode:=3 },p1],[],[],(p7 [0,0,2]),(p7 [1,1,1]),(p7 [0,1,1,1]),(p7 [0,0,2]),(p7 [1,1,1]),[{},{},p8,p1,{},p8,p1,{},p1,{},p8,p1,{},p1,{},{},p1,{},p8,p8,p1,p8,p1,p8,{ cz:=[false,true] }],(p7 [1,0,0,1,0,0,1,0,2,2,1,2,1,2,1,2,1]),[{},{},{},{ mode:=3 },p1,{},p1,p1,p1],[p1,p1,{ mode:=3 },p1,{},p1,p1,p1],[p1,p1,p1,{},p1,p1,p8,p8,p1,p1,p1,p8,p1,p1,p1,p8,p8,p1,{ mode:=3 },p8,p1]],ih:=[(0,(qc false [2,1,2,4,107])),(2,(qc false [2,1,2,5,106]))] }
def aaW:dt:={ bad:=true,ops:=[[p1],[{},{ mode:=3 },p1,p1,{},p1,p1,{ cz:=[true,false,true] }],[{ mode:=3 },p1],[{},p1,p1,{},p1,p8,{},{ cz:=[false,true] }],[p1,{ mode:=3 },p1],[{},p1,{},p1,p1,p8,p1,{},p1,{},p1,p1,p8,p1,{},p1,p1,{},{},{ cz:=[false,true] },{ cz:=[false,true] },p1],[{},{},p8,p1,{},{},p1,p1,p8,p1,{},p1,p1,p1,{},p8,p8,{},p1,p1,p1,p1,p8,p8,p8,p8,{ cz:=[true,false,true] },p1],[{},{},{ mode:=3 },p1,{},p1,p1,p1],[{},{ mode:=3 },p1,{},p1,p1,p1],[p1,p1,{ mode:=3 },p1,{},p1,p1,p1],[p1,p1,p1,p1,p1,{},p8,p8,p1,p1,p1,p8,p1,p1,{},{ mode:=3 },{ mode:=3 },p8,p1,p1,p1,p8,p1,{},p1,p8,p1,p1,p1,p1,p8,p8,p1,{ mode:=3 },p8,p1]] }
def UU:dt:={ ops:=[[],[{ mode:=3 },{ mode:=3 },{ mode:=3 },{},{},{},{ cz:=[false,true] },{ cz:=[false,true] },{ cz:=[false,true] }],[{},{},{ mode:=3 },{ mode:=3 },p1,{},{},{},p1,p1,p1],[{},{},{ mode:=3 },{ mode:=3 },p1,{},{},{},p1,p1,p1],[{},{},{ mode:=3 },{ mode:=3 },p1,{},{},p1,p1],[{},{},{ mode:=3 },{ mode:=3 },p1,{},{},p1,p1],[{},{ mode:=3 },p1,{},p1,p1,p1],[{},{ mode:=3 },p1,{},p1,p1,p1],[{},{ mode:=3 },p1,{},p1,p1,p1],[{},{ mode:=3 },p1,{},p1,p1,p1],[{},{},{ mode:=3 },{ mode:=3 },p1,{ mode:=3 },{ mode:=3 },p1,{},{},p1,p1],[{},{},{ mode:=3 },{ mode:=3 },p1,{},{},p1,p1],[p1,{},{ mode:=3 },{ mode:=3 },p1,{},{},p1,p1],[p1,{},{ mode:=3 },{ mode:=3 },p1,{},{},p1,p1],[p1,p1,p1,p1,p1,p8,p1,p1,p1,p8,p1,p1,p1,p8,p1,p1,p1,p8,p1,p1,p1,p8,p1,p1,p1,p8,p1,p1,p1,p8,p1,p1,p1,p8,p1,p1,p1,p8,p1,p1,p1,p8,p1,p1,p1,p8,p1,p1,p1,p8,p1,p1,{},{ mode:=3 },{ mode:=3 },p8,p1,p1,p1,p8,p1,p1,p1,p8,p1,p1,p1,p8,p1,p1,p1,p8,p1,p1,p1,p8,p1,p1,p1,p8,p1,p1,p1,p8,p1,p1,p1,p8,p1,p1,p1,p8,p1,p1,p1,p8,p1,p1,p1,p8,p1,p1,{ mode:=3 },p1,p8,p1,{ mode:=3 },p8,p1]] }
def T9:dt:={ ops:=[[p1],(p7 [1,1,1,1,1])] }
def Ua:dt:={ ops:=[[],[{ mode:=3 },{ mode:=3 },{ mode:=3 },{},{},{},{ cz:=[false,true] },{ cz:=[false,true] },{ cz:=[false,true] }],[{},{},{ mode:=3 },{ mode:=3 },p1,{},{},{},p1,p1,p1],[{},{},{ mode:=3 },{ mode:=3 },p1,{},{},{},p1,p1,p1],[{},{},{ mode:=3 },{ mode:=3 },p1,{},{},p1,p1],[p1,{},{ mode:=3 },{ mode:=3 },p1,{},{},p1,p1],[{},{ mode:=3 },p1,{},p1,p1,p1],[{},{ mode:=3 },p1,{},p1,p1,p1],[{},{ mode:=3 },p1,{},p1,p1,p1],[{},{},{ mode:=3 },{ mode:=3 },p1,{ mode:=3 },{ mode:=3 },p1,{},{},p1,p1],[{},{},{ mode:=3 },{ mode:=3 },p1,{ mode:=3 },{ mode:=3 },p1,{},{},p1,p1],[{},{},{ mode:=3 },{ mode:=3 },p1,{ mode:=3 },{ mode:=3 },p1,{},{},p1,p1],[p1,{},{ mode:=3 },{ mode:=3 },p1,{},{},p1,p1],[{},{},{ mode:=3 },{ mode:=3 },p1,{},{},p1,p1],[{},{ mode:=3 },p1,{},p1,p1,p1],[p1,p1,p1,p1,p1,{ cz:=[true,false,true] },p1,p1,p1,{ cz:=[true,false,true] },p1,p1,p1,{ cz:=[true,false,true] },p1,p1,p1,{ cz:=[true,false,true] },p1,p1,p1,{ cz:=[true,false,true] },p1,p1,p1,{ cz:=[true,false,true] },p1,p1,p1,{ cz:=[true,false,true] },p1,p1,p1,{ cz:=[true,false,true] },p1,p1,p1,{ cz:=[true,false,true] },p1,p1,p1,{ cz:=[true,false,true] },p1,p1,p1,{ cz:=[true,false,true] },p1,p1,p1,{ cz:=[true,false,true] }],[],[p1,{},{ mode:=3 },p1,{ mode:=3 },p1,{},{},p1,p1],[p1,p1,p1,p1,p1,p8,p1,p1,p1,p8,p1,p1,p1,p8,p1,p1,{},{ mode:=3 },{ mode:=3 },p8,p1,p1,p1,p8,p1,p1,p1,p8,p1,p1,p1,p8,p1,p1,p1,p8,p1,p1,p1,p8,p1,p1,{},{ mode:=3 },{ mode:=3 },p8,p1]] }
def Ub:dt:={ ops:=[[p1],[{},{},p1,{ mode:=3 },p1,{},p1,p1,p1],(p7 [0,1,1]),(p7 [1,0,0,1]),[{},p1,p1,p1,p1,p1,{},p1,{ mode:=3 },p1,p1],[],[p1,p1,p1,{ mode:=3 },{},{ cz:=[false,true] }],(p7 [0,1,0,1,1,1])] }
def Uc:dt:={ ops:=[[p1],[{},{},{ mode:=3 },p1],[p1,p1,{ mode:=3 },{},{},p1],[{},{},p1,p1,p8,p1,{},{},p1,p1,p8,{ cz:=[true,false,true] }],[],[{},{},{},{ mode:=3 },{},{},{},{ mode:=3 },p1,p1]] }
def Ud:dt:={ ops:=[[p1],[p1,{},p1,{ mode:=3 },p1,{},p1,p1,p1],[{},p1],(p7 [1,0,1]),[p1,p1,{ mode:=3 },p1]] }
def Ue:dt:={ ops:=[[p1],[{},{},{ mode:=3 },p1],[p1,p1,{ mode:=3 },{},p1],[p1,p1,{ mode:=3 },p1]] }
def Rb:dt:={ ops:=[[p1],[{},p1,p1,p1,{ mode:=3 },p1,p1,{},p1,p1,p1,p1,{ cz:=[true,false,true] },p1],[],[{},p1,{ mode:=3 },p1,{},p1,p1,{},p1,p1,p8,{ mode:=3 },p1,{ cz:=[true,false,true] },p1,{},p1,p1,p1,p1,p1,p8,{ cz:=[true,false,true] },p1],[],[]] }
def O':dt:={ ops:=[[p1],(p7 [0,1,1,1]),(p7 [0,1,1,0,1,2,1,0,1,2]),[],[],(p7 [0,0,2]),(p7 [1,1,1]),[{},p1,{},p8,p1,{ mode:=3 },p1],[],[{},p1,p1,p1,p1,{},p1,p1,{},p1,p1,p8,{ cz:=[true,false,true] },p1,p1,p1,p1,p1,{ cz:=[true,false,true] }],[],[]],ih:=[(0,(qc false [1,1,1,2,44]))] }
def Uf:dt:={ ops:=[[p1],[{},{ mode:=3 },p1,p1,p1,{ mode:=3 },p1,p8,p1]] }
def NP:dt:={ ops:=[[],[],[],(p7 [0,0,2]),(p7 [1,1,1]),(p7 [1,0,1,2,1]),[],(p7 [0,1,1]),(p7 [1,1,1]),[],(p7 [0,1,1]),(p7 [0,0,0,1,2,2,1,1,0,1,2,1]),(p7 [1,0,0,2,1,1,2,1]),(p7 [0,0,0,2,2,0,0,1,2,2,1]),[p1,p1]],ih:=[(0,(qc false [0,2,3,3,48])),(2,(qc false [1,1,3,2,1,1,47]))] }
def Kf:dt:={ ops:=[[p1],[p1,{ mode:=3 },p1,{},p1,{},{ cz:=[false,true] },p1],[{},p1],(p7 [1,0,1]),[],[{},{ mode:=3 }],[p1],[p1,p1,{ mode:=3 },p1],(p7 [0,1,2]),[p1,p1]] }
def Ug:dt:={ ops:=[[p1],[p1,p1,{ mode:=3 },p1,{},p1,p1,p1],(p7 [1,1,1,1,1])] }
def Pa:dt:={ ops:=[[{ cz:=[true],mode:=1 }],[p1,{},p1,{ cz:=[false,true,true],mode:=8 },p1,{},p1,p1,p1],[{},p1],(p7 [1,0,1]),[{},{},{ cz:=[false,true,true],mode:=1 },p1,p1,{ cz:=[false,true,true],mode:=1 },p8,{ cz:=[false,true],mode:=1 },{ cz:=[true],mode:=1 }],[{},{ cz:=[false,true],mode:=1 }],[{},p1,{ cz:=[false,true] },p1],(p7 [0,1,2]),[p1,p1]] }
def Uh:dt:={ ops:=[[{ cz:=[true],mode:=1 }],[{},{},p1,{ mode:=2 },p1,{},p1,p1,p1],[{},p1],(p7 [1,0,1]),[],[{},{},p1,p1,p1,p1,{ mode:=2 },p1,p1,p1,p8],[],[],[{},p1,{},{ cz:=[false,true] }],[p1,{},p1,p1,p1,{},p1,p1,{ mode:=3 },p1,p1,{},p1,{ mode:=3 },{ cz:=[true,false,true] }],[],[{},p1,p1,p1,p1,{},p1,{},p1,{},{ cz:=[true],mode:=13 },p1,p8,{ cz:=[true,true],mode:=13 },p1],[p1,p1],[p1,p1,{ mode:=6 },p1],[],(p7 [1,1,1])],ih:=[(0,(qc false [1,3,4,1,1,1,22,3,38]))] }
def Rc:dt:={ ops:=[[p1],[{},{},{ mode:=3 },p1],[p1,p1,{ mode:=3 },{},p1],[],(p7 [0,0,1,2]),(p7 [1,1,1]),[{},{},p8,p1,{},{ cz:=[false,true] }],[{},p1,p1,p1,{},p1,{},p1,p1,p8,{ cz:=[false,false,true] },p1,{},p1,p1,{},p1,{},{},p1,p8,p1,p1,p8,{ cz:=[false,true] },{ cz:=[false,false,true] },p1,{},p1,{ mode:=3 },p1,{ cz:=[false,false,true] }],[],[p1,{},{ mode:=3 },p1,{ mode:=3 },p1],[],(p7 [1,1,1])],ih:=[(0,(qc false [1,3,4,1,58]))] }
def Kg:dt:={ ops:=[[{ cz:=[true],mode:=1 }],[p1,{ cz:=[false,true],mode:=8 },p1,{},p1,{},{ cz:=[false,true] },p1],[{},p1],(p7 [1,0,1]),[],[{},{ cz:=[false,true],mode:=9 }],[p1],[],[],(p7 [0,0,1,1,1]),[{},{ cz:=[false,true] },p1,p1],[{},{},{},p1,{ cz:=[false,true] },{ cz:=[false,true,true,true],mode:=1 },p1,{},p1,p1,p1],[{},{},{},p1,p1,p1,{ cz:=[false,true,true,true,true],mode:=1 },p1,{},p1,p1,p1],(p7 [1,1,1,2]),[p1,{ cz:=[false,true] },p1],[p1,p1],(p7 [0,0,2]),[],[],[p1],[],(p7 [0,0,1,1]),[p1,p1],[{},{},p1,p1,p1,{ cz:=[true,true,true] },p1,p1,p8,p1],[p1,p1],[p1,p1]],ih:=[(2,(qc false [4,1,1,2,20,3,55])),(4,(qc false [14,1,53,2,16]))] }
def Rd:dt:={ ops:=[[],[],(p7 [0,0,1,2]),(p7 [1,1,1]),(p7 [0,0,2,1,0,2]),[],[]],ih:=[(0,(qc false [0,2,3,1,12]))] }
def Re:dt:={ ops:=[[],(p7 [0,1,0,1,2]),[],[],(p7 [0,0,1,2]),(p7 [1,1,1]),(p7 [0,0,2,1,0,0,2,1,2]),[],[]],ih:=[(0,(qc false [0,2,3,1,20]))] }
def Ui:dt:={ ops:=[[],[p1,p1]] }
def Uj:dt:={ ops:=[[],[{},{ mode:=3 },{ cz:=[false,true] }]] }
def Ul:dt:={ ops:=[[],[{},{ mode:=3 },{ cz:=[false,true] }]] }
def Um:dt:={ ops:=[[],[{},{ mode:=3 },{ cz:=[false,true] }]] }
def Un:dt:={ ops:=[[p1],[{},{ mode:=3 },p1,{},p1,p1,p1],[{},p1],(p7 [1,0,1]),[p1,p1,{ mode:=3 },{},p1,p1,p1]] }
def Uo:dt:={ ops:=[[p1],[p1,{ mode:=3 },p1,{},p1,p1,p1],[{},p1],(p7 [1,0,1]),[{},p1,{},{ cz:=[false,true] }],[p1,{ mode:=3 },{ mode:=3 },p1],(p7 [1,1,0,1])] }
def Up:dt:={ ops:=[[],[p1,p1]] }
def Uq:dt:={ ops:=[[],[p1,p1,p1,p8,p8,{ cz:=[false,true] }]] }
def Lc:dt:={ ops:=[[p1],[{},{ mode:=3 },p1],[{},p1],(p7 [1,0,1]),[p1],[],(p7 [0,1,1]),[{},{ mode:=3 },{ mode:=3 },p1],[p1],[],(p7 [0,0,1,1,1]),(p7 [1,1,2]),[],[p1,p1],(p7 [1,1,0,1,1,2]),[],[p1,p1],(p7 [1,0,2,1,1])],ih:=[(0,(qc false [2,1,14,3,28])),(2,(qc false [2,1,5,1,8,3,6,3,19]))] }
def Ur:dt:={ ops:=[[p1,p1],[p1,p8,{ mode:=6 },p1,p1]] }
def Us:dt:={ ops:=[[],[],[{},p1],[],[],[{},p1],[{},{},{},{ mode:=3 },{},{ cz:=[false,true] }],[p1,{},p1,p1,p1,{},p8,p8,{ cz:=[false,true] },p8],[p1,p1],[p1,{ cz:=[false,true] }]],ih:=[(0,(qc false [0,3,3,2,3,1,17]))] }
def Rf:dt:={ ops:=[[p1],[{},{ mode:=3 },p1],[p1,{ mode:=3 },p1],(p7 [0,1,0,1,1,2]),[],[],(p7 [0,0,1,2]),(p7 [1,1,1]),[{},{},p8,p1,p1,p1,{},{},p8,p1,{},p1,p1,p8,{ cz:=[false,false,true] },p1,{},{},p8,{},{},p8,p1,{ mode:=3 },{ cz:=[false,false,true] }],[],[]],ih:=[(0,(qc false [1,2,2,1,42]))] }
def Rh:dt:={ ops:=[[p1],[],[],(p7 [0,0,1,2]),(p7 [1,1,1]),(p7 [0,1,0,2]),[{},p1,{},{},p8,p1,p8,p1,{},{ cz:=[false,true] }],[p1,{},{},p1,{ mode:=3 },{},p1,{},p1,{},p8,p8,p8,p8,p1],[p1,p1]],ih:=[(0,(qc false [1,4,4,2,34]))] }
def Ut:dt:={ ops:=[[],[],(p7 [0,1,1,1,1,1,0,1,1,1,1,1,2]),[],(p7 [0,1,1]),[{},{},p1,{ mode:=3 }],[],[{},p1],[p1,{},p1,p1,{ cz:=[true,true,true] },p1],[p1,p1],[p1,p1],[p1,p1]],ih:=[(0,(qc false [0,2,3,1,16,3,18])),(2,(qc false [0,2,3,1,16,3,6,2,10]))] }
def Ri:dt:={ ops:=[[p1],[],(p7 [0,1,1,1]),(p7 [0,0,1,1,2]),(p7 [1,1,1]),[{},{},{},{ mode:=3 },{},{},{},{ mode:=3 },p1,p1],[p1,{},p1,p1,{},p1,p1,{ cz:=[true,true,true,true,true] },p1],[p1,p1]],ih:=[(0,(qc false [1,2,2,2,29]))] }
def Uu:dt:={ ops:=[[],[p1,p1,{ mode:=6 },p1,p1]] }
def Uv:dt:={ ops:=[[p1],[{},p1,p1,{ mode:=3 },p1,p1,p1,p1,p1,{ mode:=3 },p1,{ cz:=[true,false,true] },p1]] }
def Uw:dt:={ ops:=[[p1],(p7 [0,1,1,1,0,1,1,2,1,0,1,1,2,1,1,1,1,2,1])] }
def Ux:dt:={ ops:=[[p1],[p1,p1]] }
def Uy:dt:={ ops:=[[],[],[],[],(p7 [0,1,1]),(p7 [1,1,1,2,1]),[{},p1],[{},p1],[p1,p1],(p7 [1,0,1]),[p1],[],(p7 [0,1,1]),(p7 [1,1,2,1]),[p1,p1],[p1,p1]],ih:=[(0,(qc false [0,1,2,1,5,3,24])),(2,(qc false [6,1,18,3,8]))] }
def LW:dt:={ ops:=[[],[{},{},{},{ cz:=[false,true,true,true],mode:=1 },p1,{},p1,p1,p1],[p1],[],[],[{},p1],[],[{},p1],(p7 [0,1,0,2]),[{},{},{},{},p1,{ cz:=[false,true,true,true,true],mode:=1 },p1,{},p1,p1,p1],[p1],[p1,p1],[{},{},{ cz:=[false,true,true],mode:=9 },p1],(p7 [1,1,1,2,1]),[p1,p1],[],[p1],[],(p7 [0,1,1]),(p7 [1,0,0,2,1,0,1,1,1,1,0,0,1,1,0,2,2,1,2,1,2,1,2,1]),[p1,p1],[p1,p1]],ih:=[(0,(qc false [0,3,6,1,15,2,57])),(2,(qc false [0,2,11,1,39,3,28]))] }
def Uz:dt:={ ops:=[(p7 [0,1,1]),[p1,{},p1,p1,{ mode:=3 },p1,{ cz:=[false,true,false,true,true,true],mode:=1 }]] }
def UB:dt:={ ops:=[[p1,p1],(p7 [1,1,1,1,2,1])] }
def UC:dt:={ ops:=[[],[{},p1],[],[{},p1,p8,{ cz:=[true],mode:=1 }]] }
def Rj:dt:={ two:=[(1,[0,1,2,7,3,4,5,6,8],3,7)],ops:=[[{ cz:=[true],mode:=1 }],[{},{},{ cz:=[true],mode:=3 },{ cz:=[true,true],mode:=2 },{},{ cz:=[true],mode:=3 },p8,{},{ cz:=[false,true] }],[],(p7 [0,0,1,2]),(p7 [1,1,1]),(p7 [0,1,0,0,2,1,1,0,0,2,1,1,2,2]),[p1,{ cz:=[false,true] }]],ih:=[(0,(qc false [1,1,2,3,27]))] }
def MG:dt:={ ops:=[[],[{},{},p1,{},{ cz:=[false,true,true,true,true],mode:=9 },{},{ cz:=[false,true] }],(p7 [0,1,1,1,1,1,0,1,1,1,1,1,2,1]),(p7 [0,1,1]),[{},{},p8,p1,p1,p1,{},p1,{},p1,p1,p1,p1,p1,p1,p1,p8,p8,p1,{ cz:=[false,true] },{ cz:=[false,false,true] },{},p1],[{},p1,p1,p1,{},{},p1,p1,{ cz:=[false,true,true],mode:=9 },p8,p1,{},{},p1,p1],[p1,p1],[{},{},{},p1,p1,{ cz:=[false,true,true],mode:=9 },{ mode:=2 },p1],[{},p1,p1,p1,{},{},p1,p1,{ cz:=[false,true,true],mode:=9 },{},{ cz:=[true,true,true] }],[{},p1,p1,{},p1,p1,p8,{},{ cz:=[false,true] }],[p1],[{},p1,p1,{},p1,p1,p1,p1,p1,p1,p1,p8,p8,p1,{ cz:=[false,true] }],[p1,p1,p8,p1,{},p1,{},{ cz:=[false,true] },p1],[p1,p1],[],(p7 [1,1,1,1,2,1,1,2,1,1])] }
def Rk:dt:={ ops:=[[],[p1,p1,p8,p1,{},{ cz:=[false,true] }],[],(p7 [0,1,0,1,2]),(p7 [1,1,1]),[{},{ cz:=[true],mode:=1 },{},{},p8,p1,{},{},p1,p8,p1,p8,p1,p8,{},p8],[p1,{ cz:=[false,true] }]],ih:=[(0,(qc false [2,1,3,3,27]))] }
def UD:dt:={ ops:=[[],(p7 [1,0,1])] }
def Rl:dt:={ ops:=[[],(p7 [0,1,1,1]),[p1,p1],[],(p7 [0,1,1]),[{},{},{},{ mode:=6 }],[p1,p1],[p1,p1],[p1,p1]],ih:=[(0,(qc false [1,1,3,1,6,3,10]))] }
def UE:dt:={ ops:=[[],[{},p1,{ mode:=3 },{},p1,{ mode:=3 },p8,p1]] }
def UF:dt:={ ops:=[[],(p7 [1,0,1]),[{ cz:=[true],mode:=1 },{ cz:=[false,true],mode:=1 }],[{ cz:=[true],mode:=2 },p1]] }
def UG:dt:={ ops:=[[p1],[p1,p1]] }
def UH:dt:={ ops:=[[],[p1,p1,{ mode:=6 },p1,p1]] }
def UI:dt:={ ops:=[[],[{},p1,p8,p1,p1,p1,p8,{ cz:=[true,false,true] },p1]] }
def Rn:dt:={ ops:=[[],[],[p1],[],(p7 [0,0,1,1,1]),[{},p1,{},p8,p1,{},{},{ mode:=3 },{ cz:=[true,false,true] }],[{},p1,p1,p1,p1,p1,p8,p1,{},{ cz:=[false,true] }],[{},p1,{},{},{ mode:=3 },{},p1,p8,p8,{},p8],[{},p1,{},p1,{ mode:=3 },p1,p1,p8,p8,{},p8],[p1,p1],[p1,{ cz:=[false,true] }]],ih:=[(0,(qc false [0,1,1,2,4,2,3,3,43]))] }
def UJ:dt:={ ops:=[[],(p7 [1,1,1,2,1])] }
def Ro:dt:={ ops:=[[],[{},p1],[],[{},p1],[{},{},{},p8,p1,{ mode:=6 }],[p1,p1],[p1,p1],[]],ih:=[(0,(qc false [0,2,5,2,10]))] }
def UK:dt:={ ops:=[[p1],[],[],[{ cz:=[true,true,true] },{ cz:=[false,true] }],[p1,{ cz:=[true],mode:=1 }]] }
def Ld:dt:={ ops:=[[],(p7 [0,1,0,1,1,1,1,1,2]),[p1,p1,{ cz:=[true,true],mode:=1 },p1],(p7 [1,1,1,1,1,1]),[],[{},p1],[{},{ cz:=[false,true] },p1,p1],[{},{ cz:=[false,true] },p1],[{},{},{},p1,{},p1,{ cz:=[true,true,true] },{},p1,p8,{ cz:=[true,true],mode:=1 },p1],[p1,{ cz:=[false,true] },p1],[p1,p1],[],[p1,p1],[]],ih:=[(0,(qc false [0,1,2,2,21,2,24]))] }
def aaT:dt:={ ops:=[[],[{},p1],[{},p1],(p7 [1,0,1,0,1,2,2,1]),[{},p1],(p7 [0,0,1,2,1,2,1,1,2,1]),[p1,p1]] }
def UL:dt:={ ops:=[[],(p7 [1,1,1,1,1,1,1,1,2,1])] }
def UM:dt:={ ops:=[[],[],(p7 [0,0,2,1]),[{},p1],[p1,p1,p1,p1,{ cz:=[false,true,true,true,true],mode:=1 }],[{},p1],[p1,p1,p1,p1,{ cz:=[false,true,true,true,true],mode:=1 }],[{},p1],[{},{},{},{},{ cz:=[false,true,true,true,true],mode:=1 }],(p7 [1,1,1]),[{},{},{},{},{ cz:=[false,true,true,true,true],mode:=1 },p1,{},p1,p1,p1],[{},p1],[{},{},{},{},{ cz:=[false,true,true,true,true],mode:=1 }],(p7 [0,1,1,0,2,2,1]),[],(p7 [0,1,0,2,1,1,1,2]),[{},{},{},{},{ cz:=[false,true,true,true,true],mode:=1 }],[{},p1,p1,{},{},{},p1,p8,p1,{},{},p8,p1,{ mode:=6 },p1,p1,{ cz:=[false,true] }],[{},p1,{},p1,{},{ cz:=[false,true,true,true,true,true],mode:=1 },p1],[p1,p1],[{},{},{},p1,{},{ cz:=[false,true,true,true,true,true],mode:=1 },p1,{},p1,p1,p1],[p1,p1],(p7 [0,0,2,0,0,2,1,1]),(p7 [1,1,1]),(p7 [0,0,2]),(p7 [1,1,2,1]),[{},p1,{},{},{},{ cz:=[false,true,true,true,true,true],mode:=1 }],(p7 [1,1,1]),(p7 [1,1,2,1]),[{},{},p1,p1,{},{},{ cz:=[false,true,true,true,true,true],mode:=1 }],[p1,p1]],ih:=[(0,(qc false [0,5,5,2,136]))] }
def aaU:dt:={ ops:=[[],[p1,p1,{ mode:=3 },p1],[p1,{ mode:=3 },p1]] }
def LX:dt:={ ops:=[[],[{},p1],[],[{},p1],(p7 [1,1,1]),[],[{},p1],(p7 [1,1,1]),[{},{},p8,{},{},p8,p8,{},{ cz:=[false,true] }],(p7 [0,1,1,1,1,1,0,1,1,1,1,1,2]),[{},{},{},{},p1,p1,p1,p1,p1,p8,p8,p8,p1,{ cz:=[false,true] }],[{},p1,{},{},p8,{ cz:=[true,true,true] }],[{},p1],[{},{},p1,p1,p1,p1,p1,p1,{ mode:=3 },p1],[],(p7 [0,1,1,1,1]),[],[{},p1,{},{ cz:=[false,true] }],(p7 [0,1,0,1,0,1,1,1,1,1,2,2,1]),[p1,{},p1,p1,{},p1,p1,{ cz:=[true,true,true] },p8,p8,p1],[p1,p1],[{},p1],[{},p1],[{},p1,{},{ cz:=[false,true] }],[{},p1,{},{},p1,p1,{ mode:=3 },p1],(p7 [0,1,2]),[p1,p1]],ih:=[(0,(qc false [0,2,3,2,116])),(2,(qc false [0,2,3,3,115])),(4,(qc false [0,1,4,1,3,2,66,3,43])),(6,(qc false [5,1,4,1,96,1,15]))] }
def Kh:dt:={ ops:=[[p1],[p1],[p1],[{ mode:=1 },p1,p1,p8,p8],[{ cz:=[true],mode:=1 },p1]] }
def UN:dt:={ ops:=[[],(p7 [1,0,1])] }
def UO:dt:={ ops:=[(p7 [0,1,1]),[p1,{},p1,p1,{ mode:=3 },{ cz:=[false,true,false,true,true],mode:=1 }]] }
def UQ:dt:={ ops:=[[p1],[],(p7 [0,1,1]),[{},p1,{ cz:=[true,true],mode:=1 },p1],[p1,p1]],ih:=[(0,(qc false [0,1,4,3,8]))] }
def Rp:dt:={ ops:=[[],[{},p1],[],[{},p1],[{},{},{},p8,p1,{ mode:=6 }],[p1,p1],[p1,p1],[]],ih:=[(0,(qc false [0,2,5,2,10]))] }
def UR:dt:={ ops:=[[],[p1,p1,{ mode:=3 },p1,p1]] }
def US:dt:={ ops:=[(p7 [0,1,1]),(p7 [0,0,2]),(p7 [1,1,1]),[{},p1],[{},{},p8,p1,{},{},{},p8,p1,{},{},p1,p8,p1,{ mode:=6 },p1,{ cz:=[false,true] }],(p7 [1,1,1]),(p7 [0,0,0,0,1,0,0,1,2,1,0,0,2,1,2,2,2,2])],ih:=[(0,(qc false [0,4,4,1,44])),(2,(qc false [0,4,4,2,43]))] }
def aaV:dt:={ ops:=[[{},p1],[],(p7 [1,1,2,1]),(p7 [0,1,1,1]),[{},p1],(p7 [1,1,1]),[{},{},{},{},{},{ cz:=[false,true,true,true,true,true],mode:=1 }],(p7 [1,1,1]),[{},p1],(p7 [1,1,1]),(p7 [0,0,0,0,0,2,0,0,0,2,2,1,0,0,2,1,2,2,2,2]),[{},{},{},{},{},{ cz:=[false,true,true,true,true,true],mode:=1 }]],ih:=[(0,(qc false [0,1,2,1,4,4,48])),(2,(qc false [0,1,2,1,4,2,2,1,47]))] }
def aaX:dt:={ ops:=[(p7 [1,0,2,1]),[{},p1],[{},p1,{},{ cz:=[false,true] }],[{},{ mode:=3 },p1],(p7 [0,0,1,1,2,1,1]),(p7 [0,0,0,1,1,2,1,2]),(p7 [1,1,1]),[{ mode:=1 },{},p1,p8,p1,p1],(p7 [0,0,2]),(p7 [1,0,2,1]),(p7 [0,0,0,0,0,2,0,0,0,2,2,1,0,0,2,1,2,2,2,2])],ih:=[(0,(qc false [0,2,6,4,55]))] }
def aaY:dt:={ ops:=[[],(p7 [1,0,2,1]),[],(p7 [0,0,1,1,2,1]),(p7 [0,0,1,1,2,1]),(p7 [1,0,1,1,2,1]),[{},p1],[p1,p1],[{},p1,{},{ cz:=[false,true,true,false,true],mode:=1 },p1],[{},p1,{},{ cz:=[false,true,true,false,true],mode:=1 },p1],[{},p1,{},{ cz:=[false,true,true,false,true],mode:=1 },p1],[p1,p1,p1,p1,p1,{ cz:=[false,true,true,true,true,false,true],mode:=1 },p1],[p1],[p1,p1],[{},p1],[p1,p1],[p1,p1],[p1,p1]] }
def aaZ:dt:={ ops:=[[p1,p1],(p7 [1,1,1]),(p7 [0,0,2]),(p7 [0,0,0,0,0,0,2,1,0,0,2,1,2,2,2,2]),(p7 [1,1,1]),(p7 [1,1,1])],ih:=[(0,(qc false [0,1,7,2,24]))] }
def aa0:dt:={ ops:=[[],(p7 [0,1,1]),[],[{},p1],(p7 [1,1,1]),[{},{},p8,p1,{},{},{},p8,p1,{},{},p1,p8,p1,{ mode:=6 },p1,p1,{ cz:=[false,true] }],(p7 [1,1,1]),(p7 [0,0,2]),[],(p7 [0,0,2,1]),[],(p7 [0,0,0,0,1,0,0,1,2,1,0,0,2,1,2,2,2,2]),(p7 [0,0,2,1]),(p7 [0,1,1]),[{},p1],(p7 [1,1,1]),[{},{},{},p8,p1,{},{},p1,p8,p1,{ mode:=6 },p1,p1],(p7 [0,0,0,0,1,0,0,1,2,1,0,0,2,1,2,2,2,2]),(p7 [0,0,2,1]),(p7 [0,1,1]),(p7 [0,0,2]),(p7 [1,1,1]),[{},{},{},p8,p1,{},{},p1,p8,p1,{ mode:=6 },p1,p1],(p7 [0,0,0,0,1,0,0,1,2,1,0,0,2,1,2,2,2,2]),[]],ih:=[(0,(qc false [0,4,5,2,130])),(2,(qc false [0,4,5,2,130])),(4,(qc false [0,4,5,3,129])),(6,(qc false [0,4,5,2,1,1,128]))] }
def aa1:dt:={ ops:=[[],(p7 [0,0,0,0,0,0,2,1,0,0,2,1,2,2,2,2]),(p7 [0,1,1,1,1,1]),[{},{},p8,p1,{},{},{},p8,p1,{},{},p8,p1,{ mode:=6 },p1,p1,{ cz:=[false,true] }],(p7 [1,1,1]),[{},{},p8,p1,{},{},{},p8,p1,{},{},p8,p1,{ mode:=6 },p1,{ cz:=[false,true] }],(p7 [1,1,1]),(p7 [0,0,2]),(p7 [0,0,0,0,0,0,2,1,0,0,2,1,2,2,2,2]),(p7 [1,1,1]),(p7 [1,1,1]),[p1,p1]],ih:=[(0,(qc false [0,2,2,1,6,2,77])),(2,(qc false [0,2,2,1,6,2,77])),(4,(qc false [0,2,2,1,6,2,77]))] }
def aa2:dt:={ ops:=[[],(p7 [0,0,0,0,0,0,2,1,0,0,2,1,2,2,2,2]),(p7 [0,1,1,1,1,1]),[{},{},p8,p1,{},{},{},p8,p1,{},{},p8,p1,{ mode:=6 },p1,{ cz:=[false,true] }],(p7 [1,1,1]),[{},{},p8,p1,{},{},{},p8,p1,{},{},p8,p1,{ mode:=6 },p1,p1,{ cz:=[false,true] }],(p7 [1,1,1]),(p7 [0,0,2]),(p7 [0,0,0,0,0,0,2,1,0,0,2,1,2,2,2,2]),[p1,p1],(p7 [0,0,0,0,0,0,2,1,0,0,2,1,2,2,2,2]),(p7 [1,1,1]),(p7 [1,1,1]),[{},{},p8,p1,{},{},{},p8,p1,{},{},p8,p1,{ mode:=6 },p1,{ cz:=[false,true] }],(p7 [1,1,1]),[{},{},p8,p1,{},{},{},p8,p1,{},{},p8,p1,{ mode:=6 },p1,p1,{ cz:=[false,true] }],(p7 [1,1,1]),(p7 [0,0,2]),(p7 [0,0,0,0,0,0,2,1,0,0,2,1,2,2,2,2]),(p7 [1,1,1]),(p7 [1,1,1]),(p7 [0,0,0,0,0,0,2,1,0,0,2,1,2,2,2,2]),[p1,p1]],ih:=[(0,(qc false [0,2,2,1,7,2,164])),(2,(qc false [0,2,2,1,7,2,164])),(4,(qc false [0,2,2,1,7,2,164])),(6,(qc false [0,2,2,1,7,2,164])),(8,(qc false [0,2,2,1,7,2,164]))] }
def aa3:dt:={ ops:=[[],[{},p1],(p7 [1,1,1]),[],[{},p1],(p7 [1,1,1]),(p7 [1,1,1]),[p1,p1,p1,{ cz:=[false,true] },p1,p8,p1]] }
def aa4:dt:={ ops:=[[],[{},p1],(p7 [1,1,1]),[],[{},p1],(p7 [1,1,1]),(p7 [1,1,1]),[{},p1],(p7 [1,1,1]),(p7 [1,1,1]),[p1,p1,p1,{ cz:=[false,true] },p1,p8,p1]] }
def Ki:dt:={ ops:=[[p1],[p1],[p1],[{ mode:=1 },p1,p1,p8,{ cz:=[true,true],mode:=1 }],[{ cz:=[true],mode:=1 },p1]] }
def UT:dt:={ ops:=[[],[],(p7 [0,0,2,1]),[{},p1],[p1,p1,p1,{ cz:=[false,true,true,true],mode:=1 }],[{},p1],[p1,p1,p1,{ cz:=[false,true,true,true],mode:=1 }],[{},p1],[{},{},{},{ cz:=[false,true,true,true],mode:=1 }],(p7 [1,1,1]),[{},{},{},{ cz:=[false,true,true,true],mode:=1 },p1,{},p1,p1,p1],[{},p1],[{},{},{},{ cz:=[false,true,true,true],mode:=1 }],(p7 [0,1,1,0,2,2,1]),[],(p7 [0,1,0,2,1,1,1,2]),[{},{},{},{ cz:=[false,true,true,true],mode:=1 }],[{},p1,p1,{},{},p1,p8,p1,{},{},p8,p1,{ mode:=3 },p1,{ cz:=[false,true] }],[{},p1,{},p1,{ cz:=[false,true,true,true,true],mode:=1 },p1],[p1,p1],[{},{},{},p1,{ cz:=[false,true,true,true,true],mode:=1 },p1,{},p1,p1,p1],[p1,p1],(p7 [0,0,2,0,0,2,1,1]),(p7 [1,1,1]),(p7 [0,0,2]),(p7 [1,1,2,1]),[{},p1,{},{},{ cz:=[false,true,true,true,true],mode:=1 }],(p7 [1,1,1]),(p7 [1,1,2,1]),[{},{},p1,p1,{},{ cz:=[false,true,true,true,true],mode:=1 }],[p1,p1]],ih:=[(0,(qc false [0,4,4,2,124]))] }
def Rq:dt:={ ops:=[[],[{},p1],[],[{},p1],(p7 [0,0,0,2,1,2]),[p1,p1],[p1,p1],[]],ih:=[(0,(qc false [0,2,5,2,10]))] }
def aa5:dt:={ ops:=[[p1,p1],[{},{ cz:=[false,true] },p1,p1],(p7 [0,0,2]),[{},p1,{},p8,p1,{},{},{},{},p8,p8,p1,{},{},{},p8,p1,p8,p1,{ mode:=6 },p1,{ cz:=[false,true] }],(p7 [1,1,1]),[{},{},{},{},p8,p8,p1,{},{},{},p8,p8,p1,{ mode:=6 },p1,p1],(p7 [0,0,0,2,0,0,0,2,0,0,0,2,2,1,0,0,0,2,2,1,2,2,2,2]),[p1,p1]],ih:=[(0,(qc false [0,1,1,3,5,1,71]))] }
def aa6:dt:={ ops:=[[],[p1,p1,{ mode:=3 },{ cz:=[false,true] },p1]] }
def aa7:dt:={ ops:=[[],(p7 [0,0,1,0,1,1,1,2,0,2]),(p7 [0,0,1,0,1,1,1,2,0,2]),(p7 [0,0,1,0,1,1,1,2,0,2]),(p7 [1,1,1,1])] }
def aa8:dt:={ ops:=[[],[p1,{},p1,{},p1,p1,p1,p1,{ cz:=[false,true,true,true,true,true,true],mode:=1 },p1]] }
def aa9:dt:={ ops:=[[],[{},p1,p1,{},{},{ cz:=[false,true,true,true,true,true],mode:=1 },p1,{},p1,p1,p1],[{},p1,p1,{},{},{ cz:=[false,true,true,true,true,true],mode:=1 },p1,{},p1,p1,p1],[p1,p1,p1,p1,p1,{ cz:=[false,true,true,true,true,true],mode:=1 },p1,{},p1,p1,p1],[p1,p1]] }
def UW:dt:={ ops:=[(p7 [0,1,1]),(p7 [0,0,2]),(p7 [1,1,1]),[{},p1],[{},{},p8,p1,{},{},p8,p1,{},{},p1,p8,p1,{ mode:=3 },{ cz:=[false,true] }],(p7 [1,1,1]),(p7 [0,0,0,0,1,0,0,1,2,1,0,0,2,1,2,2,2,2])],ih:=[(0,(qc false [0,3,3,1,42])),(2,(qc false [0,3,3,2,41]))] }
def aa_:dt:={ ops:=[[{},p1],[],(p7 [1,1,2,1]),(p7 [0,1,1,1]),[{},p1],(p7 [1,1,1]),[{},{},{},{},{ cz:=[false,true,true,true,true],mode:=1 }],(p7 [1,1,1]),[{},p1],(p7 [1,1,1]),(p7 [0,0,0,0,0,2,0,0,0,2,2,1,0,0,2,1,2,2,2,2]),[{},{},{},{},{ cz:=[false,true,true,true,true],mode:=1 }]],ih:=[(0,(qc false [0,1,5,4,46])),(2,(qc false [0,1,5,2,2,1,45]))] }
def aba:dt:={ ops:=[(p7 [1,0,2,1]),[{},p1],[{},p1,{},{ cz:=[false,true] }],[{},{ mode:=3 },p1],(p7 [0,0,1,1,2,1,1]),(p7 [0,0,0,1,1,2,1,2]),(p7 [1,1,1]),[{ mode:=1 },{},p1,p8,p1,p1],(p7 [0,0,2]),(p7 [1,0,2,1]),(p7 [0,0,0,0,0,2,0,0,0,2,2,1,0,0,2,1,2,2,2,2])],ih:=[(0,(qc false [0,2,4,4,55]))] }
def abb:dt:={ ops:=[[],(p7 [1,0,2,1]),[],(p7 [0,0,1,1,2,1]),(p7 [0,0,1,1,2,1]),(p7 [1,0,1,1,2,1]),[{},p1],[p1,p1],[{},p1,{ cz:=[false,true,true],mode:=1 },p1],[{},p1,{ cz:=[false,true,true],mode:=1 },p1],[{},p1,{ cz:=[false,true,true],mode:=1 },p1],[p1,p1,p1,p1,{ cz:=[false,true,true,true,true],mode:=1 },p1],[p1],[p1,p1],[{},p1],[p1,p1],[p1,p1],[p1,p1]] }
def aaJ:dt:={ ops:=[[p1,p1],(p7 [1,1,1]),(p7 [0,0,2]),(p7 [0,0,0,0,0,0,2,1,0,0,2,1,2,2,2,2]),(p7 [1,1,1]),(p7 [1,1,1])],ih:=[(0,(qc false [0,1,5,2,24]))] }
def aaK:dt:={ ops:=[[],(p7 [0,1,1]),[],[{},p1],(p7 [1,1,1]),[{},{},p8,p1,{},{},p8,p1,{},{},p1,p8,p1,{ mode:=3 },p1,{ cz:=[false,true] }],(p7 [1,1,1]),(p7 [0,0,2]),[],(p7 [0,0,2,1]),[],(p7 [0,0,0,0,1,0,0,1,2,1,0,0,2,1,2,2,2,2]),(p7 [0,0,2,1]),(p7 [0,1,1]),[{},p1],(p7 [1,1,1]),[{},{},p8,p1,{},{},p1,p8,p1,{ mode:=3 },p1],(p7 [0,0,0,0,1,0,0,1,2,1,0,0,2,1,2,2,2,2]),(p7 [0,0,2,1]),(p7 [0,1,1]),(p7 [0,0,2]),(p7 [1,1,1]),[{},{},p8,p1,{},{},p1,p8,p1,{ mode:=3 },p1],(p7 [0,0,0,0,1,0,0,1,2,1,0,0,2,1,2,2,2,2]),[]],ih:=[(0,(qc false [0,3,4,2,124])),(2,(qc false [0,3,4,2,124])),(4,(qc false [0,3,4,3,123])),(6,(qc false [0,3,4,2,1,1,122]))] }
def T_:dt:={ ops:=[[],[{},{ mode:=3 },p1,{},{ mode:=3 },p1,p8,p1,p1,p1,p8,{ cz:=[true,false,true] },p1]] }
def aaL:dt:={ ops:=[[],(p7 [0,0,0,0,0,0,2,1,0,0,2,1,2,2,2,2]),(p7 [0,1,1,1,1,1]),[{},{},p8,p1,{},{},p8,p1,{},{},p8,p1,{ mode:=3 },p1,{ cz:=[false,true] }],(p7 [1,1,1]),[{},{},p8,p1,{},{},p8,p1,{},{},p8,p1,{ mode:=3 },{ cz:=[false,true] }],(p7 [1,1,1]),(p7 [0,0,2]),(p7 [0,0,0,0,0,0,2,1,0,0,2,1,2,2,2,2]),(p7 [1,1,1]),(p7 [1,1,1]),[p1,p1]],ih:=[(0,(qc false [0,2,7,2,73])),(2,(qc false [0,2,7,2,73])),(4,(qc false [0,2,7,2,73]))] }
def aaM:dt:={ ops:=[[],(p7 [0,0,0,0,0,0,2,1,0,0,2,1,2,2,2,2]),(p7 [0,1,1,1,1,1]),[{},{},p8,p1,{},{},p8,p1,{},{},p8,p1,{ mode:=3 },{ cz:=[false,true] }],(p7 [1,1,1]),[{},{},p8,p1,{},{},p8,p1,{},{},p8,p1,{ mode:=3 },p1,{ cz:=[false,true] }],(p7 [1,1,1]),(p7 [0,0,2]),(p7 [0,0,0,0,0,0,2,1,0,0,2,1,2,2,2,2]),[p1,p1],(p7 [0,0,0,0,0,0,2,1,0,0,2,1,2,2,2,2]),(p7 [1,1,1]),(p7 [1,1,1]),[{},{},p8,p1,{},{},p8,p1,{},{},p8,p1,{ mode:=3 },{ cz:=[false,true] }],(p7 [1,1,1]),[{},{},p8,p1,{},{},p8,p1,{},{},p8,p1,{ mode:=3 },p1,{ cz:=[false,true] }],(p7 [1,1,1]),(p7 [0,0,2]),(p7 [0,0,0,0,0,0,2,1,0,0,2,1,2,2,2,2]),(p7 [1,1,1]),(p7 [1,1,1]),(p7 [0,0,0,0,0,0,2,1,0,0,2,1,2,2,2,2]),[p1,p1]],ih:=[(0,(qc false [0,2,8,2,156])),(2,(qc false [0,2,8,2,156])),(4,(qc false [0,2,8,2,156])),(6,(qc false [0,2,8,2,156])),(8,(qc false [0,2,8,2,156]))] }
def aaN:dt:={ ops:=[[],[p1,{},{},p8,p1,{},{},p8,p1,{ mode:=6 },p1],(p7 [1,0,1,1,1,2]),(p7 [1,1,1,1]),(p7 [1,1,1,1])] }
def aaO:dt:={ ops:=[[p1,p1],[{},{ cz:=[false,true] },p1,p1],(p7 [0,0,2]),[{},p1,{},p8,p1,{},{},{},p8,p8,p1,{},{},{},p8,p1,p8,p1,{ mode:=3 },{ cz:=[false,true] }],(p7 [1,1,1]),[{},{},{},p8,p8,p1,{},{},{},p8,p8,p1,{ mode:=3 },p1],(p7 [0,0,0,2,0,0,0,2,0,0,0,2,2,1,0,0,0,2,2,1,2,2,2,2]),[p1,p1]],ih:=[(0,(qc false [0,1,1,2,4,1,67]))] }
def aaP:dt:={ ops:=[[],[p1,{},p1,{},p1,p1,p1,{ cz:=[false,true,true,true,true,true],mode:=1 },p1]] }
def aaQ:dt:={ ops:=[[],[{},p1,p1,{},{ cz:=[false,true,true,true,true],mode:=1 },p1,{},p1,p1,p1],[{},p1,p1,{},{ cz:=[false,true,true,true,true],mode:=1 },p1,{},p1,p1,p1],[p1,p1,p1,p1,{ cz:=[false,true,true,true,true],mode:=1 },p1,{},p1,p1,p1],[p1,p1]] }
def T':dt:={ ops:=[[],(p7 [0,1,2,1])] }
def aaR:dt:={ ops:=[[],[{},{},p8,p1,{},{},p8,p1,{ mode:=3 }],(p7 [1,0,1,1,1,2]),(p7 [1,1,1,1]),(p7 [1,1,1,1])] }
def abc:List dt:=[{},{},aaS,Uk,Rg,UA,Rm,NQ,aaW,UU,T9,Ua,Ub,Uc,Ud,Ue,Rb,O',Uf,NP,Kf,Ug,Pa,Uh,Rc,Kg,Rd,Re,Ui,Uj,Ul,Um,Un,Uo,Up,Uq,Lc,Ur,Us,Rf,Rh,Ut,Ri,Uu,Uv,Uw,Ux,Uy,LW,Uz,UB,UC,Rj,MG,Rk,UD,Rl,UE,UF,UG,UH,UI,Rn,UJ,Ro,UK,Ld,aaT,UL,UM,aaU,LX,Kh,UN,UO,UQ,Rp,UR,US,aaV,aaX,aaY,aaZ,aa0,aa1,aa2,aa3,aa4,Ki,UT,Rq,aa5,aa6,aa7,aa8,aa9,UW,aa_,aba,abb,aaJ,aaK,T_,aaL,aaM,aaN,aaO,aaP,aaQ,T',aaR,{},{},{},{},{},{},{},{},{},{},{},{},{},{},{},{}]
def jA (k:FuncId):dt:=abc.getD k {}
end Go.Proofs.Ytkoioidpbbbaiaa.Ab


namespace Go.Proofs.Ytkoioidpbbbaiaa.Ab
open Go
end Go.Proofs.Ytkoioidpbbbaiaa.Ab


namespace Go.Proofs.Ytkoioidpbbbaiaa.Ab
open Go
end Go.Proofs.Ytkoioidpbbbaiaa.Ab


namespace Go.Proofs.Ytkoioidpbbbaiaa.Ab
open Go
theorem eD:Go.Proofs.Try.prog.follows .mixedOrders=true:=by kernel_rfl
abbrev qy (k:FuncId) (args:List I) (v:I):Prop:=nj Go.Proofs.Try.prog k args v
abbrev hX (n:Int):I:=.int .i64 n
abbrev Hx:I:=.a0
abbrev B (b:Bool):I:=.bool b
def oW (l:List Int):I:=.av (l.map hX) l.length .shared
def ju (l:List (List Int)):I:=.av (l.map oW) l.length .shared
theorem Xo (d:Nat) (l:List Int):(l.map hX).all (cn (d+1))=true:=by
 rw [sr];intro u hu;obtain ⟨x,_,rfl⟩:=sD.1 hu;rfl
theorem Xn (d:Nat) (l:List Int):cn (d+2) (oW l)=true:=Xo d l
theorem Sr (d:Nat) (l:List (List Int)):(l.map oW).all (cn (d+2))=true:=by
 rw [sr];intro u hu;obtain ⟨x,_,rfl⟩:=sD.1 hu;exact Xn d x
theorem afv (d:Nat) (l:List (List Int)):cn (d+3) (ju l)=true:=Sr d l
theorem M4 (k:IntKind) (n:Int):cn 8 (.int k n)=true:=rfl
theorem Na (b:Bool):cn 8 (.bool b)=true:=rfl
theorem M5 (l:List Int) (n:Nat) (c:hB):cn 8 (.av (l.map hX) n c)=true:=Xo 6 l
theorem M7 (l:List (List Int)) (n:Nat) (c:hB):cn 8 (.av (l.map oW) n c)=true:=Sr 5 l
theorem M6 (l:List Int):cn 8 (oW l)=true:=Xn 6 l
theorem M8 (l:List (List Int)):cn 8 (ju l)=true:=afv 5 l
theorem Nb (k:FuncId):cn 8 (.func k [] [])=true:=rfl
theorem Nc (n:Nat) (c:hB):cn 8 (.av [] n c)=true:=rfl
theorem KW (l:List (List Int)) (n:Nat) (c:hB):cn 8 (.agg [.av (l.map oW) n c])=true:=by
 show [I.av (l.map oW) n c].all (cn 7)=true;rw [List.all_cons,List.all_nil,Bool.and_true];exact Sr 4 l
theorem M9 (l:List (List Int)):cn 8 (.agg [ju l])=true:=KW l _ _
theorem M_ (l:List (List Int)):cn 8 (.bR [ju l])=true:=KW l _ _
theorem M' (l:List (List Int)) (n:Nat) (c:hB):cn 8 (.bR [.av (l.map oW) n c])=true:=KW l _ _
theorem Qi (i:Nat) (h:i≤9223372036854775806):IntKind.i64.wrap ((i:Int)+1)=((i+1:Nat):Int):=by rw [IntKind.wrap_i64];omega
theorem HX (n:Int) (ab:-9223372036854775808≤n) (ae:n≤9223372036854775807):IntKind.i64.wrap n=n:=by rw [IntKind.wrap_i64];omega
theorem Xm:∀ {d:Nat} {v:I},cn d v=true→cn (d+1) v=true
 | 0,v,h=>by simp [cn] at h
 | d+1,v,h=>by
   have key:∀ {l:List I},l.all (cn d)=true→l.all (cn (d+1))=true:=fun h=>by
    rw [sr] at h ⊢;exact fun u hu=>Xm (h u hu)
   cases v <;> simp only [cn,sn,tS] at h ⊢ <;> first | trivial | exact key h | exact ⟨key h.1,key h.2⟩
theorem HO {p:Prop} [Decidable p] {A C:Prop} (ab:p→A) (ae:¬ p→C):(match decide p with | true=>A | false=>C):=by
 by_cases h:p
 ·simp only [h,decide_true];exact ab h
 ·simp only [h,decide_false];exact ae h
theorem rD {k:FuncId} {xs:List I} {v:I}:∀ p∈([]:c4),p.1=k→p.2.1=xs→p.2.2=v:=fun _ h=>by simp at h
theorem BV {k k':FuncId} {xs ys:List I} {v bn:I} (h:k'=k→ys=xs→bn=v):∀ p∈([(k',ys,bn)]:c4),p.1=k→p.2.1=xs→p.2.2=v:=fun p aB=>by
 simp only [List.mem_singleton] at aB;subst aB;exact h
theorem rY {k:FuncId} {xs:List I} {v:I} {acc:c4} (h:acc.all (fun p=>p.1 != k)=true):∀ p∈acc,p.1=k→p.2.1=xs→p.2.2=v:=fun p aB e=>by
 have:=sr.1 h p aB;simp [e] at this
def HJ (cap:List I):Prop:=cap.all (cn 7)=true∧∀ u∈cap,∃ cs,u=.bR cs
theorem HJ.T6 {cap:List I} (h:HJ cap):cap.all (cn 8)=true:=by
 have ab:=h.1;rw [sr] at ab ⊢;exact fun u hu=>Xm (ab u hu)
theorem HJ.iA {cap:List I} (h:HJ cap) (H:List ar):cap.map (iA H)=cap:=by
 conv=>rhs;rw [←uX cap]
 apply tN;intro u hu;obtain ⟨cs,rfl⟩:=h.2 u hu;rfl
theorem HJ.hT {cap:List I} (h:HJ cap) (H:List ar):cap.map (hT H)=cap:=by
 conv=>rhs;rw [←uX cap]
 apply tN;intro u hu;obtain ⟨cs,rfl⟩:=h.2 u hu;rfl
theorem HJ.ca {cap:List I} (h:HJ cap):cap.map I.ca=cap:=by
 conv=>rhs;rw [←uX cap]
 apply tN;intro u hu;obtain ⟨cs,rfl⟩:=h.2 u hu;rfl
theorem HJ.fn {cap:List I} (h:HJ cap) (H:List ar) (k:FuncId):Ab.iA H (.func k [] cap)=.func k [] cap:=by
 simp only [Ab.iA,h.hT,uD]
theorem HJ.Xf {cap:List I} (h:HJ cap) (k:FuncId):cn 8 (.func k [] cap)=true:=by
 show (([]:List I).all (cn 7) && cap.all (cn 7))=true;rw [h.1];rfl
theorem HJ.nil:HJ []:=⟨rfl,by simp⟩
section
variable {P:Program}
theorem call6 {k:FuncId} {xs bs:List I} {H:List ar} {lo:Nat} {v:I} (af:(xs.map (iA H)).map I.ca=bs) (aB:(xs.map (iA H)).all (cn 8)=true) (h:nj P k bs v) (ah:fw v=true):oU P 6 lo (.fn k) xs H v.ca H:=by
 subst af;refine ⟨k6 (.fn k) ((xs.map (iA H)).map I.ca) [] 0 v [],EE h.1,?_⟩;simp only [eN,aB,ED,sc,yZ h.2,ah]
end
theorem VC {H:List ar} {id d:Nat} {l:List I} (h:H[id]?=some (.cells l)) (aB:(l.map I.view).all (cn d)=true):bL H 0 H.length 0 (d+1) (.ptr id 0)=some (.bR (l.map I.view)):=by
 have ab:=(sd.1 h).1;have ae:dZ (bL H 0 H.length 0 d) (l.map I.view)=some (l.map I.view):=zX fun u hu=>yZ (by rw [sr] at aB;exact aB u hu);simp only [bL,Nat.not_lt_zero,if_false,h,tt,ae,sg];rw [if_neg (by omega)]
end Go.Proofs.Ytkoioidpbbbaiaa.Ab


namespace Go.Proofs.Ytkoioidpbbbaiaa.Ab
open Go
section
variable {P:Program}
theorem Vv (eD:P.follows .mixedOrders=true) {k:Nat} {A:dt} {rc:gB} {n:Nat} {ts:List IC} (ao:qt P A k=some (rc,n,ts)) {lo:Nat} {args T:List I} {H H':List ar} (bZ:args++List.replicate (n-args.length) .a0=T) {v:I} (KO:a' lo H H')
  (h:dN P A k lo none rc T H fun e g3 H1=>(e=.normal∨e=.ret)∧lF H1 H'∧(rX H1 g3 ts).map jd=some v):Sem P (.fn k) args H lo v H':=by
 unfold qt at ao;split at ao
 ·rename_i f aP;split at ao
  ·rename_i c af;split at ao
   ·rename_i Xu Qe ab ae aF ba;simp only [Option.some.injEq,Prod.mk.injEq] at ao;obtain ⟨rfl,rfl,rfl⟩:=ao;subst bZ;refine He eD aP af (by simpa using ae) ab KO (oQ (fun e s a_=>?_) (G9 aF h));obtain ⟨cc,b_,eP⟩:=a_;simp only [Option.map_eq_some_iff] at eP;obtain ⟨vs,eP,iM⟩:=eP;exact ⟨cc,b_,vs,by rw [OB _ _ ba,eP],iM⟩
   ·cases ao
  ·cases ao
 ·cases ao
end
theorem rG {P:Program} (eD:P.follows .mixedOrders=true) {k:Nat} {A:dt} {rc:gB} {n:Nat} {ts:List IC} (ao:qt P A k=some (rc,n,ts)) {lo:Nat} {args T:List I} {H H':List ar} (bZ:args++List.replicate (n-args.length) .a0=T) {v:I} (KO:a' lo H H')
  (h:∀ Q:cN→List I→List ar→Prop,(∀ e g3 H1,(e=.normal∨e=.ret)∧lF H1 H'∧(rX H1 g3 ts).map jd=some v→Q e g3 H1)→dN P A k lo none rc T H Q):Sem P (.fn k) args H lo v H' :=
 Vv eD ao bZ KO (h _ fun _ _ _ h=>h)
theorem Pp {P:Program} (eD:P.follows .mixedOrders=true) {k:Nat} {A:dt} {rc:gB} {n:Nat} {ts:List IC} (ao:qt P A k=some (rc,n,ts)) {args T:List I} (bZ:args++List.replicate (n-args.length) .a0=T) {v:I} (aB:cn 8 v=true)
  (h:∀ Q:cN→List I→List ar→Prop,(∀ e g3 H1,NL ts v e g3 H1→Q e g3 H1)→dN P A k 0 none rc T [] Q):nj P k args v :=
 RH eD ao bZ aB (h _ fun _ _ _ h=>h)
theorem rE {P:Program} {lo:Nat} {bX:e'} {xs:List I} {H H':List ar} {v:I} (h:Sem P bX xs H lo v H'):oU P 1 lo bX xs H v H' :=
 ⟨k6 bX xs H lo v H',EE h,by simp only [eN,ED]⟩
theorem Yw {P:Program} {k:FuncId} {args:List I} {v:I} (cq:args.all (cn 8)=true) (h:nj P k args v) (H:List ar):Sem P (.fn k) args H H.length v H:=by
 obtain ⟨⟨_,ab,ae⟩,aB⟩:=h
 exact ⟨a'.refl _ _,ab,fun B aa J S w vs ag aI ad=>CallsIn.mono (ae B _ [] S w vs (pZ ag) (fun b i h=>by obtain ⟨_,_,h⟩:=kq h;cases h) (ad.pure cq)) fun e w' he=>by
  cases e with
  | returned v=>exact xK ag (yZ (n:=0) aB) he
  | panicked c=>exact he.elim
  | outgrown=>exact he.elim⟩
theorem NS {P:Program} {k:FuncId} {args:List I} {v:I} (cq:args.all (cn 8)=true) (h:nj P k args v) (H:List ar) (lo:Nat):oU P 0 lo (.fn k) args H v H :=
 ⟨_,EE (Yw cq h H),by simp only [eN,ED,sc,yZ h.2,sg]⟩
theorem VR {X Z:List ar} {j:Nat} {o:ar} (h:X[j]?=some o):(X++Z)[j]?=some o:=by
 rw [sj (sd.1 h).1];exact h
theorem H9 (X:List ar) (c dR:ar):(X++[c]).set X.length dR=X++[dR]:=by simp
theorem Jj (X:List ar) (c:ar):(X++[c])[X.length]?=some c:=by simp
end Go.Proofs.Ytkoioidpbbbaiaa.Ab


namespace Go.Proofs.Ytkoioidpbbbaiaa.Ab
open Go
def ql:Nat:=18446744073709551616
def qx (p:Prop) [Decidable p] {aV:Type} (k:Option aV):Option aV:=if p then k else none
theorem rZ {p:Prop} [Decidable p] {aV:Type} {k:Option aV} {v:aV} (h:qx p k=some v):p∧k=some v:=by
 unfold qx at h;split at h
 ·exact ⟨by assumption,h⟩
 ·cases h
theorem qD {p:Prop} [Decidable p] {aV:Type} {k:Option aV} (h:p):qx p k=k:=if_pos h
theorem p9 {α aV:Type} {x:Option α} {f:α→Option aV} {v:aV} (h:x.bind f=some v):∃ a,x=some a∧f a=some v:=by
 cases x with
 | none=>cases h
 | some a=>exact ⟨a,rfl,h⟩
theorem rJ {b:Bool} {aV:Type} {x y:Option aV} {v:aV} (af:b=true) (h:(if b=true then x else y)=some v):x=some v:=by
 rw [if_pos af] at h;exact h
theorem rK {b:Bool} {aV:Type} {x y:Option aV} {v:aV} (af:b=false) (h:(if b=true then x else y)=some v):y=some v:=by
 rw [if_neg (by rw [af];decide)] at h;exact h
def ix {α:Type} [Inhabited α] (l:List α) (i:Int):α:=l.getD i.toNat default
theorem rB {α:Type} [Inhabited α] {l:List α} {k:Nat} (h:k<l.length):ix l (k:Int)=l[k]:=by
 simp [ix,h]
theorem PB {α:Type} [Inhabited α] {l:List α} {i:Int} (h:0≤i∧i<(l.length:Int)):ix l i=l[i.toNat]'(by omega):=by
 have:i.toNat<l.length:=by omega
 simp [ix,this]
theorem Kn {α:Type} [Inhabited α] {l:List α} {i:Int} (h:0≤i∧i<(l.length:Int)):ix l i∈l:=by
 rw [PB h];exact List.getElem_mem _
abbrev w (n:Int):Int:=IntKind.i64.wrap n
theorem ahs {n:Int} (ab:-9223372036854775808≤n) (ae:n≤9223372036854775807):w n=n:=HX n ab ae
theorem r3 {aV:Type} {v:aV} {G:Prop} (h:(none:Option aV)=some v):G:=by cases h
def aaB {α:Type} (f:α→I) (l:List α):I:=.av (l.map f) l.length .shared
def aaC {α:Type} (f:α→List I) (l:List α):I:=.av (l.flatMap f) l.length .shared
theorem rh {α:Type} [Inhabited α] (f:α→I) (l:List α) (n:Int) (h:0≤n∧n<(l.length:Int)):(l.map f).drop (n.toNat*1)=f (ix l n)::(l.drop (n.toNat+1)).map f:=by
 have aX:n.toNat<l.length:=by omega
 rw [tr,←tL,s9 aX,sI,PB h]
theorem H3 {α:Type} [Inhabited α] (f:α→List I) (s:Nat) (ah:∀ x,(f x).length=s):∀ (l:List α) (n:Int),0≤n∧n<(l.length:Int)→(l.flatMap f).drop (n.toNat*s)=f (ix l n)++(l.drop (n.toNat+1)).flatMap f:=by
 have key:∀ (l:List α) (k:Nat) (h:k<l.length),(l.flatMap f).drop (k*s)=f l[k]++(l.drop (k+1)).flatMap f:=by
  intro l
  induction l with
  | nil=>intro k h;simp at h
  | cons x l a8 =>
    intro k h;cases k with
    | zero=>simp
    | succ k =>
      (have al:k<l.length:=by simpa using h);(have e:(k+1)*s=(f x).length+k*s:=by rw [ah,td,Nat.one_mul,ti]);rw [uE,e,List.drop_length_add_append,a8 k al];rfl
 intro l n h;rw [key l n.toNat (by omega),PB h]
theorem IE {α:Type} (f:α→List I) (s:Nat) (ah:∀ x,(f x).length=s) (l:List α):(l.flatMap f).length=l.length*s:=by
 induction l with
 | nil=>simp
 | cons x l a8=>rw [uE,sE,a8,ah,sM,td,Nat.one_mul,ti]
theorem UY {α:Type} (f:α→I) (l m:List α) (c:hB):I.av (l.map f++m.map f) (l.length+m.length) c=.av ((l++m).map f) (l++m).length c:=by
 rw [sT,sE]
theorem Rr {α:Type} (f:α→I) (l:List α) (x:α) (c:hB):I.av (l.map f++[f x]) (l.length+1) c=.av ((l++[x]).map f) (l++[x]).length c:=by
 rw [sT,sE];rfl
theorem Rs {α:Type} (f:α→List I) (l:List α) (x:α) (c:hB):I.av (l.flatMap f++f x) (l.length+1) c=.av ((l++[x]).flatMap f) (l++[x]).length c:=by
 simp [List.flatMap_append]
theorem YE {α:Type} (f:α→I) (l:List α) (n:Int) (h:0≤n∧n≤(l.length:Int)) (c:hB):I.av (((l.map f).drop (n.toNat*1)).take ((l.length-n.toNat)*1)) (l.length-n.toNat) c=.av ((l.drop n.toNat).map f) (l.drop n.toNat).length c:=by
 rw [tr,tr,List.length_drop,←tL,tf (by simp)]
theorem YD {α:Type} (f:α→I) (l:List α) (n:Int) (h:0≤n∧n≤(l.length:Int)) (c:hB):I.av ((l.map f).take (n.toNat*1)) n.toNat c=.av ((l.take n.toNat).map f) (l.take n.toNat).length c:=by
 rw [tr,te,←List.map_take,Nat.min_eq_left (by omega)]
theorem T8 {a b:Bool} (h:a=true) (k:b=true):(a && b)=true:=by rw [h,k];rfl
theorem p6 {α:Type} {f:α→Bool} {x:α} {l:List α} (h:f x=true) (k:l.all f=true):(x::l).all f=true:=T8 h k
theorem Ih {cs:List I} {d:Nat} (h:cs.all (cn d)=true):cn (d+1) (.agg cs)=true:=h
theorem IF {cs:List I} {d:Nat} (h:cs.all (cn d)=true):cn (d+1) (.bR cs)=true:=h
theorem Jq {cs:List I} {d:Nat} (h:cs.all (cn d)=true):cn (d+1) (.tuple cs)=true:=h
theorem Jp {k:FuncId} {a b:List I} {d:Nat} (ab:a.all (cn d)=true) (ae:b.all (cn d)=true):cn (d+1) (.func k a b)=true:=T8 ab ae
theorem rT {α:Type} {f:α→I} {d:Nat} (h:∀ x,cn d (f x)=true) (l:List α) (n:Nat) (c:hB):cn (d+1) (.av (l.map f) n c)=true:=by
 show (l.map f).all (cn d)=true;rw [sr];intro u hu;obtain ⟨x,_,rfl⟩:=sD.1 hu;exact h x
theorem HF {α:Type} {f:α→List I} {d:Nat} (h:∀ x,(f x).all (cn d)=true) (l:List α) (n:Nat) (c:hB):cn (d+1) (.av (l.flatMap f) n c)=true:=by
 show (l.flatMap f).all (cn d)=true;rw [sr];intro u hu;obtain ⟨x,_,aj⟩:=tO.1 hu;exact sr.1 (h x) u aj
theorem Xl {α:Type} {f:α→I} {d:Nat} (h:∀ x,cn d (f x)=true) (l:List α):(l.map f).all (cn d)=true:=by
 rw [sr];intro u hu;obtain ⟨x,_,rfl⟩:=sD.1 hu;exact h x
theorem nj.ca {P:Program} {k:FuncId} {args:List I} {v:I} (h:nj P k args v) (aB:cn 8 v.ca=true):nj P k args v.ca :=
 ⟨⟨h.1.1,h.1.2.1,fun B aa J S w vs ag aI ad=>CallsIn.mono (h.1.2.2 B aa J S w vs ag aI ad) fun e w' he=>by
   cases e with
   | returned x=>exact aZ.ca he
   | panicked c=>exact he.elim
   | outgrown=>exact he.elim⟩,aB⟩
section
variable {P:Program} {B:Nat} {J:List Nat} {w:World} {aa:Nat→Option aH} {S:Nat→Nat→Prop}
theorem aZ.aht {H':List ar} {r:I} {v:Value} {w':World} (h:aZ B aa J S w H' r v w'):aZ B aa J S w H' r.settle.view.ca v w':=by
 have ab:aZ B aa J S w H' r.settle v w':=by
  cases r with
  | av c n k=>cases k with
    | uniq z=>exact h.settle
    | _=>exact h
  | _=>exact h
 have ae:r.settle.cT=true:=by
  cases r with
  | av c n k=>cases k <;> rfl
  | _=>rfl
 obtain ⟨bt,cg,bK,a,b,c,d,e⟩:=ab;exact aZ.ca ⟨bt,cg,bK,a,b,c,d.view ae,aU.b3 (I.di _)⟩
theorem afw (eD : P.follows .mixedOrders = true) {k : Nat} {f : Func} {c : Code} (aP : P.funcs[k]? = some f) (af : f.body = some c) (aI : f.name ≠ "runtime.NumGoroutine") {A : dt} (bS : codeOk A c = true)
  {args:List I} {v:I} (aB:cn 8 v=true)
  (h:c' P A k 0 none c 0 ⟨args++List.replicate (f.ntmps-args.length) .a0,[]⟩ fun e s=>(e=.normal∨e=.ret)∧∃ vs r,gU P s.H s.T f.results.toList=some vs∧bL s.H 0 s.H.length 0 8 (jd vs)=some r∧r.settle.view.ca=v):nj P k args v:=by
 refine ⟨⟨a'.refl _ _,⟨f,aP,by simp [af],aI⟩,fun B aa J S w xs ag _ ad=>?_⟩,aB⟩;refine callsIn_of_wp_marks aP af trivial ?_;have aL:=yg ag ad f.ntmps;have dy:=(oO ag).1;refine BA eD c 0 _ _ h bS Fence.wide _ B w.heap.size J w (hV aa) S _ (.inl ⟨rfl,rfl⟩) (fun l a w aO=>aO.elim) aL fun e s al aM w' ah=>?_;obtain ⟨he,vs,r,ai,C3,eE⟩:=al;obtain ⟨b4,cW,a4,aJ,aN,cd⟩:=ah;have iS:LeavesInM Fence.wide 0 P f aM.tmps (fW B aa J S w [] v) aM.defers .returning w':=by
  refine n4 (aa:=b4) (S:=a4) (J:=cW) (B:=B) (H:=s.H) (lE:=aa) (S0:=S) (w0:=w) aM.defers w' cd.M.2.1 cd.M.2.2 (dy.trans aN) cd.H fun bW dA dq mG mH=>?_
  have bZ:a5 .slot b4 cW a4 bW s.T aM.tmps.toList:=⟨cd.T.len,fun i u v hu ad=>(cd.T.rel i u v hu ad).mono (Ext.refl _) (fun b o h=>⟨h,dq b o h⟩),fun i u v hu ad =>
   (cd.T.own i u v hu ad).mono (Ext.refl _) (fun b o h=>⟨h,dq b o h⟩) fun b af=>⟨af,dA b _ af,fun _ h=>h⟩⟩
  obtain ⟨x,q1,aW⟩:=xV mH bZ ai;have kN:=xJ ag (fun id aE=>by simp at aE) C3 (aZ.after aJ mG aW);refine ⟨x,q1,?_⟩;rw [←eE];exact kN.aht
 rcases he with rfl | rfl
 ·exact iS
 ·exact iS
end
inductive Ib (rs:List IC) (v:I) (e:cN) (T:List I) (H:List ar):Prop where
 | mk (he:e=.normal∨e=.ret) (vs:List I) (ai:rX H T rs=some vs) (r:I) (aP:bL H 0 H.length 0 8 (jd vs)=some r) (ad:r.settle.view.ca=v)
theorem qQ {P:Program} (eD:P.follows .mixedOrders=true) {k:Nat} {A:dt} {rc:gB} {n:Nat} {ts:List IC} (ao:qt P A k=some (rc,n,ts)) {args T:List I} (bZ:args++List.replicate (n-args.length) .a0=T) {v:I} (aB:cn 8 v=true)
  (h:∀ Q:cN→List I→List ar→Prop,(∀ e T H,Ib ts v e T H→Q e T H)→dN P A k 0 none rc T [] Q):nj P k args v:=by
 have h:=h _ fun _ _ _ h=>h;unfold qt at ao;split at ao
 ·rename_i f aP;split at ao
  ·rename_i c af;split at ao
   ·rename_i Xu Qe ab ae aF ba;simp only [Option.some.injEq,Prod.mk.injEq] at ao;obtain ⟨rfl,rfl,rfl⟩:=ao;subst bZ;have a_:∀ e s,Ib Qe v e (a6.T s) (a6.H s)→(e=.normal∨e=.ret)∧∃ vs r,gU P s.H s.T f.results.toList=some vs∧bL s.H 0 s.H.length 0 8 (jd vs)=some r∧r.settle.view.ca=v:=fun e s ⟨cc,vs,RK,r,b_,eP⟩=>by
     exact ⟨cc,vs,r,by rw [OB _ _ ba,RK],b_,eP⟩
    exact afw eD aP af (by simpa using ae) ab aB (oQ a_ (G9 aF h))
   ·cases ao
  ·cases ao
 ·cases ao
theorem wp_loop {P:Program} {A:dt} {fn:FuncId} {lo:Nat} {rl:Option Nat} {cB:List Bool} {c:gB} {T T0:List I} {H:List ar} {Q:cN→List I→List ar→Prop} (bZ:eW cB T=T0)
  (h:BK (fun T H Q=>oa T fun T=>dN P A fn lo rl c T H fun e bd H'=>match e with
   | .normal=>xr (some cB) bd fun bd=>Q .normal bd H'
   | e=>Q e bd H') T0 H Q):dN P A fn lo rl (.loop (some cB) c) T H Q:=by
 show xr (some cB) T _;rw [DV];subst bZ;exact h
def MZ {α:Type} (f:α→List I):Option α→I
 | none=>.eF
 | some x=>.bR (f x)
theorem Xk {α:Type} {f:α→List I} {d:Nat} (h:∀ x,(f x).all (cn d)=true) (x:Option α):cn (d+1) (MZ f x)=true:=by
 cases x with
 | none=>rfl
 | some x=>exact h x
abbrev Hz (n:Int):I:=.int .u8 n
theorem Jb {f:I→Option I}:dZ f []=some []:=rfl
theorem rL {f:I→Option I} {x y:I} {l r:List I} (h:f x=some y) (k:dZ f l=some r):dZ f (x::l)=some (y::r):=by simp only [dZ,h,k,sg]
theorem NW {H:List ar} {lo i n d:Nat} {vs rs:List I} (h:dZ (bL H lo i n d) vs=some rs):bL H lo i n (d+1) (.tuple vs)=some (.tuple rs):=by simp only [bL,h,sg]
theorem agO {α:Type} {f:α→I} {H:List ar} {id n:Nat} {l:List α} {cap:Option Nat} (ag:H[id]?=some (.cells (l.map f))) (aI:n=l.length) (ad:∀ x,(f x).view=f x):rowOf H (.ref id 0 n cap 1)=some (l.map f):=by
 subst aI;simp only [rowOf,ag,sG,tr,s6,se,if_true,tt];rw [tf (by simp),vC];congr 1;exact tN fun x _=>ad x
theorem Rx {P:Program} {k:FuncId} {xs cs bs:List I} {H:List ar} {lo:Nat} {v:I} (ah:xs.map (iA H)=cs) (af:cs.map I.ca=bs) (aB:cs.all (cn 8)=true) (h:nj P k bs v) (ad:fw v=true):oU P 6 lo (.fn k) xs H v.ca H :=
 call6 (by rw [ah,af]) (by rw [ah];exact aB) h ad
theorem Ll {f:I→I} {x y:I} {l r:List I} (h:f x=y) (k:l.map f=r):(x::l).map f=y::r:=by rw [sI,h,k]
theorem N9 {f:I→I}:([]:List I).map f=[]:=rfl
theorem agY {H:List ar} {k:FuncId} {a b aM au:List I} (ab:a.map (hT H)=aM) (ae:b.map (hT H)=au):iA H (.func k a b)=.func k aM au:=by simp only [iA,ab,ae]
theorem YC {H:List ar} {id off:Nat} {cs fD:List I} (ag:H[id]?=some (.cells cs)) (he:((cs.drop off).map I.view).map (ke H)=fD):hT H (.ptr id off)=.bR fD:=by simp only [hT,ag,he]
theorem Xb {P:Program} {C:b6} {lo mode:Nat} {o:Oper} {xs:Array Operand} {ts:Array TypeId} {vs:List I} {H:List ar} (aq:o.op=.call { callee:=.builtin .copy,args:=xs,argTypes:=ts }):a3 P C lo o mode vs H=j7 P lo ts H vs:=by
 unfold a3;rw [aq];rfl
def IJ {α K9:Type} (g:K9→α→Option K9):List α→K9→Option K9
 | [],s=>some s
 | x::l,s=>(g s x).bind fun t=>IJ g l t
theorem Pq {α K9:Type} {g:K9→α→Option K9}:∀ {l:List α} {s t:K9},IJ g l s=some t→∃ F:Nat→K9,F 0=s∧F l.length=t∧∀ (i:Nat) (h:i<l.length),g (F i) l[i]=some (F (i+1))
 | [],s,t,h=>⟨fun _=>s,rfl,Option.some.inj h,fun i hi=>absurd hi (by simp)⟩
 | x::l,s,t,h=>by
   obtain ⟨u,ab,ae⟩:=p9 h;obtain ⟨F,f1,f2,f3⟩:=Pq ae;refine ⟨fun i=>match i with | 0=>s | i+1=>F i,rfl,f2,fun i hi=>?_⟩;cases i with
   | zero=>show g s x=some (F 0);rw [f1,ab]
   | succ i=>exact f3 i (by simpa using hi)
def Seq (P:Program) (k:FuncId) (cap:List I) (E:List I):Prop :=
 ∀ (l N:Nat) (qT:Nat→List ar),(∀ i,(qT i).length=N)→l<N →
   (∀ (i:Nat) (h:i<E.length) (Y:List ar),∃ qM,Sem P (.yield l) [E[i]] (qT i++Y) 0 (.bool true) (qT (i+1)++qM)) →
   ∀ Y,∃ qM,Sem P (.fn k) (.yield l::cap) (qT 0++Y) 0 (.tuple []) (qT E.length++qM)
theorem agU {P:Program} {l:Nat} {qT:Nat→List ar} {E:List I} (ai:∀ (i:Nat) (h:i<E.length) (Y:List ar),∃ qM,Sem P (.yield l) [E[i]] (qT i++Y) 0 (.bool true) (qT (i+1)++qM)) (Y:List ar) :
  ∃ Z:Nat→List ar,Z 0=Y∧∀ (i:Nat) (h:i<E.length),Sem P (.yield l) [E[i]] (qT i++Z i) 0 (.bool true) (qT (i+1)++Z (i+1)):=by
 classical
 have nP:∀ (i:Nat) (Y:List ar),∃ qM,∀ h:i<E.length,Sem P (.yield l) [E[i]] (qT i++Y) 0 (.bool true) (qT (i+1)++qM):=fun i Y=>by
  by_cases h:i<E.length
  ·obtain ⟨qM,aX⟩:=ai i h Y;exact ⟨qM,fun _=>aX⟩
  ·exact ⟨[],fun aX=>absurd aX h⟩
 exact ⟨fun n=>Nat.rec Y (fun i Z=>Classical.choose (nP i Z)) n,rfl,fun i h=>uC (nP i _) h⟩
theorem Ja {H X:List ar} (h:H.length≤X.length):a' 0 H X:=⟨h,fun _ h _=>absurd h (by omega)⟩
theorem J_ (X Y:List ar) (c d:ar):((X++[c])++Y).set X.length d=(X++[d])++Y:=by
 rw [sx,List.set_append_right _ _ (se _)];simp
theorem I8 (X Y:List ar) (c:ar):((X++[c])++Y)[X.length]?=some c:=by
 rw [sx,sv (se _)];simp
theorem agL {α:Type} {P:Program} {A:dt} {fn:FuncId} {rl:Option Nat} {k:FuncId} {cap:List I} {bp:List Nat} {gE cp:Code} {T:List I} {H Hn:List ar} {Q:cN→List I→List ar→Prop} {f:α→I} {L:List α} (IX:Seq P k cap (L.map f))
  (Obj:Nat→List ar) (aQ:Obj 0=H) (hlen:∀ i,(Obj i).length=H.length)
  (L9:∀ (i:Nat) (h:i<L.length) (Y:List ar),∃ qM,Sem P (.yield H.length) [f L[i]] ((Obj i++[.loop .ready none fn (T.map I.view) bp gE cp A])++Y) 0 (.bool true) ((Obj (i+1)++[.loop .ready none fn (T.map I.view) bp gE cp A])++qM))
  (hc:inLoop H rl=true) (aI:Obj L.length=Hn) (bo:∀ qM,Q .normal (T.map I.settle) ((Hn++[.dead])++qM)):oD P A fn 0 rl (.func k [] cap) bp gE cp T H Q:=by
 obtain ⟨qM,cl⟩:=IX H.length (H.length+1) (fun i=>Obj i++[.loop .ready none fn (T.map I.view) bp gE cp A]) (fun i=>by simp [hlen]) (by omega) (fun i h Y=>by
  have aX:i<L.length:=by simpa using h
  obtain ⟨qM,ai⟩:=L9 i aX Y
  exact ⟨qM,by rw [List.getElem_map];exact ai⟩) []
 subst aI;simp only [sN,s6,aQ] at cl;have ao:(Obj L.length).length=H.length:=hlen _;refine ⟨hc,.tuple [],_,.ready,none,fn,T.map I.view,bp,gE,cp,A,cl,by rw [←ao];exact I8 _ _ _,by decide,?_⟩;show Q .normal (T.map I.settle) (((Obj L.length++[ar.loop .ready none fn (T.map I.view) bp gE cp A])++qM).set H.length .dead);rw [←ao,J_];exact bo qM
end Go.Proofs.Ytkoioidpbbbaiaa.Ab


namespace Go.Proofs.Ytkoioidpbbbaiaa.Ab
open Go
theorem VA {H:List ar} {lo i n d:Nat} {k:FuncId} {a b aM au:List I} (ab:dZ (bL H lo i n d) a=some aM) (ae:dZ (bL H lo i n d) b=some au):bL H lo i n (d+1) (.func k a b)=some (.func k aM au):=by simp only [bL,ab,ae]
theorem agM {α:Type} {P:Program} {A:dt} {fn:FuncId} {rl:Option Nat} {k:FuncId} {cap:List I} {t:Nat} {bp:List Nat} {gE cp:Code} {T:List I} {H Hn:List ar} {Q:cN→List I→List ar→Prop} {f:α→I} {L:List α} (IX:Seq P k cap (L.map f))
  (Obj:Nat→List ar) (ax:dc T t=.func k [] cap) (aQ:Obj 0=H) (hlen:∀ i,(Obj i).length=H.length)
  (L9:∀ (i:Nat) (h:i<L.length) (Y:List ar),∃ qM,Sem P (.yield H.length) [f L[i]] ((Obj i++[.loop .ready none fn (T.map I.view) bp gE cp A])++Y) 0 (.bool true) ((Obj (i+1)++[.loop .ready none fn (T.map I.view) bp gE cp A])++qM))
  (hc:inLoop H rl=true) (aI:Obj L.length=Hn) (bo:∀ qM,Q .normal (T.map I.settle) ((Hn++[.dead])++qM)):dN P A fn 0 rl (.AP (.m_ t) bp gE cp) T H Q:=by
 show hF T t _;rw [iN,ax];exact agL IX Obj aQ hlen L9 hc aI bo
end Go.Proofs.Ytkoioidpbbbaiaa.Ab


namespace Go.Proofs.Ytkoioidpbbbaiaa.Ab
open Go
theorem acg {α:Type} [Inhabited α] (f:α→List I) (s:Nat) (ah:∀ x,(f x).length=s) (l:List α) (n:Int) (h:0≤n∧n<(l.length:Int)) (j:Nat) (aw:j<s):(l.flatMap f)[n.toNat*s+j]?=(f (ix l n))[j]?:=by
 have e:=H3 f s ah l n h
 have:(l.flatMap f)[n.toNat*s+j]?=((l.flatMap f).drop (n.toNat*s))[j]?:=by rw [sU]
 rw [this,e,sj (by rw [ah];exact aw)]
theorem KY {α:Type} [Inhabited α] (f:α→List I) (s:Nat) (ah:∀ x,(f x).length=s) (l:List α) (n:Int) (h:0≤n∧n<(l.length:Int)) (j:Nat) {v:I} (aw:(f (ix l n))[j]?=some v) {K:I→Prop} (k:K v):eG (l.flatMap f) (0+n.toNat*s+j) K:=by
 refine Ez (x:=v) ?_ k;rw [sG,acg f s ah l n h j (by have:=(sd.1 aw).1;rw [ah] at this;exact this),aw]
theorem P7 {α:Type} [Inhabited α] (f:α→List I) (s:Nat) (ah:∀ x,(f x).length=s) (l:List α) (n:Int) (h:0≤n∧n<(l.length:Int)) {v:I} (aw:(f (ix l n))[0]?=some v) {K:I→Prop} (k:K v):eG (l.flatMap f) (0+n.toNat*s) K :=
 KY f s ah l n h 0 aw k
theorem Za {α:Type} {f:α→List I} (h:∀ x,∀ u∈f x,u.view=u) (l:List α):∀ u∈l.flatMap f,u.view=u:=fun u hu=>by
 obtain ⟨x,_,aj⟩:=tO.1 hu;exact h x u aj
theorem Zb:∀ u∈([]:List I),u.view=u:=fun u h=>absurd h (by simp)
theorem OK {v:I} {l:List I} (h:v.view=v) (k:∀ u∈l,u.view=u):∀ u∈v::l,u.view=u:=fun u hu=>by
 rcases List.mem_cons.1 hu with rfl | hu
 ·exact h
 ·exact k u hu
end Go.Proofs.Ytkoioidpbbbaiaa.Ab


namespace Go.Proofs.Ytkoioidpbbbaiaa.Ab
open Go
theorem qK {n:Int} (h:-9223372036854775808≤n∧n≤9223372036854775807):w n=n:=ahs h.1 h.2
theorem Iw (i:Nat) (h:i≤9223372036854775806):w ((i:Int)+1)=((i+1:Nat):Int):=Qi i h
end Go.Proofs.Ytkoioidpbbbaiaa.Ab


namespace Go.Proofs.Ytkoioidpbbbaiaa.Ab
open Go
def p' (p:Int×Int):List I:=[hX p.1,hX p.2]
theorem KV (p:Int×Int):(p' p).length=2:=rfl
theorem RD (k:IntKind):∀ (xs ys:List Int),xs.length=ys.length→dI (xs.map (.int k)) (ys.map (.int k))=some (decide (xs=ys))
 | [],[],_=>rfl
 | x::xs,y::ys,h=>by
   simp only [sI,dI,if_true,RD k xs ys (by simpa using h),sg];congr 1;by_cases aj:x=y <;> by_cases ao:xs=ys <;> simp [aj,ao]
 | [],y::ys,h=>by cases h
 | x::xs,[],h=>by cases h
theorem T4 {P:Program} {t:TypeId} {fs:Array Field} {op:BinOp} (ab:P.underlying t=some (.struct fs)) (ae:gP P fs.toList 0=true) (aF:P.stoodInHeld t=false) (ba:fs.size=2) (bO:P.eqGuardType P.depth t=false) (a b c d:Int) (aC:op=.eql∨op=.neq) :
  fk P op t (.agg [hX a,hX b]) (.agg [hX c,hX d])=some (.bool (match op with | .eql=>decide ((a,b)=(c,d)) | _=>!decide ((a,b)=(c,d)))):=by
 unfold fk;simp only [ab];rw [if_pos ⟨ae,aF,by simp [ba],by simp [ba],bO⟩];have e:=RD .i64 [a,b] [c,d] rfl;simp only [sI,uD] at e;have b9:decide ([a,b]=[c,d])=decide ((a,b)=(c,d)):=by simp
 rcases aC with rfl | rfl <;> simp only <;> rw [show [hX a,hX b]=[I.int .i64 a,I.int .i64 b] from rfl,show [hX c,hX d]=[I.int .i64 c,I.int .i64 d] from rfl,e,sg,b9]
theorem aaG {P:Program} {t e:TypeId} {len:Nat} {kd:IntKind} (k:IntKind) (ab:P.underlying t=some (.array len e)) (ae:P.underlying e=some (.int kd)) (aF:bE P e=some 1) (ba:P.eqGuardType P.depth t=false) {xs ys:List Int} (aj:xs.length=len) (aY:ys.length=len) :
  fk P .eql t (.agg (xs.map (.int k))) (.agg (ys.map (.int k)))=some (.bool (decide (xs=ys))):=by
 unfold fk;simp only [ab,ae,aF];rw [if_pos ⟨by simp [aj],by simp [aY],ba⟩,RD k xs ys (by rw [aj,aY]),sg]
theorem Sp {P:Program} {C:b6} {lo:Nat} {o:Oper} {op:BinOp} {t u:TypeId} {a b:Operand} {x y v:I} {H:List ar} (aq:o.op=.binOp op t a b u) (aI:iW b=false) (h:fk P op t x y=some v):a3 P C lo o 0 [x,y] H=some (v,H):=by
 unfold a3;rw [aq];show (cy P o [x,y]).map _=_;unfold cy;rw [aq];simp only [aI];show (fk P op t x y).map _=_;rw [h];rfl
end Go.Proofs.Ytkoioidpbbbaiaa.Ab


namespace Go.Proofs.Ytkoioidpbbbaiaa.Ab
open Go
section
variable {P:Program} {B N:Nat} {J:List Nat} {w:World} {H:List ar} {aa:Nat→Option aH} {S:Nat→Nat→Prop}
end
end Go.Proofs.Ytkoioidpbbbaiaa.Ab


namespace Go.Proofs.Ytkoioidpbbbaiaa.Ab
open Go
theorem aho {α:Type} {f:α→I} (h:∀ x,(f x).view=f x) (l:List α):(l.map f).map I.view=l.map f:=by rw [vC];exact tN fun x _=>h x
theorem WA {α:Type} (f:α→I) (l:List α) {n:Nat} (aP:∀ x,(f x).view=f x) (h:l.length=n):(((l.map f).drop 0).take n).map I.view=l.map f:=by
 rw [tt,tf (by simp [h]),aho aP]
def VE (P:Program) (t:TypeId):Array Field:=match P.underlying t with
 | some (.struct fs)=>fs
 | _=>#[]
theorem aaH {P:Program} {t e:TypeId} {len:Nat} {kd k:IntKind} {xs:List Int} {n:Int} (ab:P.underlying t=some (.array len e)) (ae:P.underlying e=some (.int kd)) (aF:bE P e=some 1) (ba:dH P e=false) (ao:xs.length=len) (aI:0≤n∧n<(len:Int)) :
  oZ P t (.agg (xs.map hX)) (.int k n)=some (hX (ix xs n)):=by
 unfold oZ;have bO:g7 n len=some n.toNat:=by unfold g7;rw [if_pos aI]
 simp only [ab,aF,bO,sc,tr];unfold iH;simp only [ae,ba];have aR:n.toNat<xs.length:=by omega
 rw [sq,sk aR,sg,PB (by omega)]
theorem afg {P:Program} {C:b6} {lo:Nat} {o:Oper} {t:TypeId} {a b:Operand} {x y v:I} {H:List ar} (aq:o.op=.index t a b) (h:oZ P t x y=some v) (ad:v.view=v:=by rfl):a3 P C lo o 0 [x,y] H=some (v,H):=by
 unfold a3;rw [aq];show (cy P o [x,y]).map _=_;unfold cy;rw [aq];show ((oZ P t x y).map I.view).map _=_;rw [h,sg,sg,ad]
end Go.Proofs.Ytkoioidpbbbaiaa.Ab


namespace Go.Proofs.Ytkoioidpbbbaiaa.Ab
open Go
def Ls:List I→Nat→List (Nat×I)→List I
 | [],_,_=>[]
 | x::T,_,[]=>x::T
 | x::T,i,(j,v)::r=>match Nat.beq i j with
   | true=>v::Ls T (i+1) r
   | false=>x::Ls T (i+1) ((j,v)::r)
def IH (u:Nat→I):Nat→Nat→List (Nat×I)→List I
 | 0,_,_=>[]
 | n+1,i,[]=>u i::IH u n (i+1) []
 | n+1,i,(j,v)::r=>match Nat.beq i j with
   | true=>v::IH u n (i+1) r
   | false=>u i::IH u n (i+1) ((j,v)::r)
def rr (n:Nat) (bp:List (Nat×I)) (T:List I):Prop:=T.length=n∧T=Ls T 0 bp
theorem P' {u bG:Nat→I}:∀ (n i:Nat) (bp:List (Nat×I)),(∀ k,i≤k→u k=bG k)→IH u n i bp=IH bG n i bp
 | 0,_,_,_=>rfl
 | n+1,i,[],h=>by
   rw [IH,IH,h i (se _),P' n (i+1) [] fun k al=>h k (by omega)]
 | n+1,i,(j,v)::r,h=>by
   rw [IH,IH];cases Nat.beq i j with
   | true=>exact congrArg _ (P' n (i+1) r fun k al=>h k (by omega))
   | false=>show u i::_=bG i::_;rw [h i (se _),P' n (i+1) _ fun k al=>h k (by omega)]
theorem YF:∀ (T:List I) (i:Nat) (bp:List (Nat×I)),Ls T i bp=IH (fun k=>dc T (k-i)) T.length i bp
 | [],_,_=>rfl
 | x::T,i,bp=>by
   have e:∀ bp,IH (fun k=>dc (x::T) (k-i)) T.length (i+1) bp=Ls T (i+1) bp:=fun bp=>by
    rw [YF T (i+1) bp];refine P' _ _ _ fun k al=>?_;show dc (x::T) (k-i)=dc T (k-(i+1));rw [show k-i=(k-(i+1))+1 by omega];rfl
   (have f_:dc (x::T) (i-i)=x:=by rw [Nat.sub_self];rfl);(have aca:∀ (T:List I) i,Ls T i []=T:=fun T i=>by cases T <;> rfl);cases bp with
   | nil =>
     show x::T=IH _ (T.length+1) i [];rw [IH,f_,e,aca]
   | cons p r =>
     obtain ⟨j,v⟩:=p;show Ls (x::T) i ((j,v)::r)=IH _ (T.length+1) i ((j,v)::r);rw [Ls,IH];cases Nat.beq i j with
     | true=>exact congrArg _ (e r).symm
     | false=>show x::_=_::_;rw [f_,e]
theorem rr.ex {n:Nat} {bp:List (Nat×I)} {T:List I} (h:rr n bp T):∃ u,T=IH u n 0 bp:=by
 obtain ⟨ab,ae⟩:=h;subst ab;exact ⟨_,ae.trans (YF T 0 bp)⟩
class HK (d:Nat) (v:I):Prop where PK:cn d v=true
class qb (d:Nat) (l:List I):Prop where pl:l.all (cn d)=true
instance {d:Nat}:qb d []:=⟨rfl⟩
instance {d:Nat} {v:I} {l:List I} [a:HK d v] [b:qb d l]:qb d (v::l):=⟨p6 a.PK b.pl⟩
instance {d:Nat} {a b:List I} [x:qb d a] [y:qb d b]:qb d (a++b):=⟨by rw [List.all_append,x.pl,y.pl];rfl⟩
instance {d:Nat} {α:Type} {f:α→I} {l:List α} [h:∀ x,HK d (f x)]:qb d (l.map f):=⟨Xl (fun x=>(h x).PK) l⟩
instance {d:Nat} {α:Type} {f:α→List I} {l:List α} [h:∀ x,qb d (f x)]:qb d (l.flatMap f):=⟨by
 rw [sr];intro u hu;obtain ⟨x,_,aj⟩:=tO.1 hu
 exact sr.1 (h x).pl u aj⟩
instance {d:Nat} {k:IntKind} {n:Int}:HK (d+1) (.int k n):=⟨rfl⟩
instance {d:Nat} {b:Bool}:HK (d+1) (.bool b):=⟨rfl⟩
instance {d:Nat} {b:ByteArray}:HK (d+1) (.str b):=⟨rfl⟩
instance {d:Nat}:HK (d+1) .eF:=⟨rfl⟩
instance {d:Nat}:HK (d+1) .a0:=⟨rfl⟩
instance {d n:Nat} {c:hB} {l:List I} [h:qb d l]:HK (d+1) (.av l n c):=⟨h.pl⟩
instance {d:Nat} {l:List I} [h:qb d l]:HK (d+1) (.agg l):=⟨h.pl⟩
instance {d:Nat} {l:List I} [h:qb d l]:HK (d+1) (.tuple l):=⟨h.pl⟩
instance {d:Nat} {l:List I} [h:qb d l]:HK (d+1) (.bR l):=⟨h.pl⟩
instance {d:Nat} {α:Type} {f:α→I} {l:List α} [h:∀ x,HK d (f x)]:HK (d+1) (aaB f l):=⟨Xl (fun x=>(h x).PK) l⟩
instance {d:Nat} {α:Type} {f:α→List I} {l:List α} [h:∀ x,qb d (f x)]:HK (d+1) (aaC f l):=⟨(inferInstance:qb d (l.flatMap f)).pl⟩
instance {d:Nat} {l:List Int}:HK (d+2) (oW l):=⟨(inferInstance:qb (d+1) (l.map hX)).pl⟩
instance {d:Nat} {l:List (List Int)}:HK (d+3) (ju l):=⟨(inferInstance:qb (d+2) (l.map oW)).pl⟩
instance {d:Nat} {α:Type} {f:α→List I} {x:Option α} [h:∀ x,qb d (f x)]:HK (d+1) (MZ f x):=⟨Xk (fun x=>(h x).pl) x⟩
theorem qN {p Xd:Prop} [Decidable p] {aV:Type} {k:Option aV} {v:aV} {K:Prop} (h:qx p k=some v) (f:p→Xd) (g:p→k=some v→K):Xd∧K :=
 ⟨f (rZ h).1,g (rZ h).1 (rZ h).2⟩
theorem bs {b:Bool} {aV:Type} {x y:Option aV} {v:aV} {K:Prop} (h:(if b=true then x else y)=some v) (f:b=true→x=some v→K) (g:b=false→y=some v→K):K :=
 match b,h,f,g with
 | true,h,f,_=>f rfl (rJ rfl h)
 | false,h,_,g=>g rfl (rK rfl h)
theorem aft {d:Nat} {u:I} (h:cn d u.g9=true):cn d u=true:=by
 cases d with
 | zero=>simp [cn] at h
 | succ d=>cases u with
   | av cs n c=>cases c <;> exact h
   | _=>exact h
theorem Xj {d:Nat} {l:List I} (h:(l.map I.g9).all (cn d)=true):l.all (cn d)=true:=by
 rw [sr] at h ⊢;exact fun u hu=>aft (h _ (List.mem_map_of_mem hu))
theorem afs {d:Nat} {r:I} (h:cn d r.settle.view.ca=true) (aw:r.settle.view.ca.G7=false):cn d r=true:=by
 cases d with
 | zero=>simp [cn] at h
 | succ d=>cases r with
   | av cs n c=>cases c <;> exact h
   | agg cs=>exact Xj (l:=cs) h
   | tuple cs=>exact Xj (l:=cs) h
   | raw=>exact absurd aw (by simp [I.settle,I.view,I.ca,I.G7])
   | c0=>exact absurd aw (by simp [I.settle,I.view,I.ca,I.G7])
   | cj=>exact absurd h (by simp [I.settle,I.view,I.ca,cn])
   | _=>exact h
theorem IG {rs:List IC} {v:I} {T:List I} {H:List ar} {vs:List I} [h:HK 8 v] (ab:rX H T rs=some vs) (ae:(jd vs).settle.view.ca=v) (aw:v.G7=false:=by first | rfl | (simp [I.G7];done) | (cases ‹Option _› <;> rfl)):Ib rs v .ret T H :=
 ⟨.inr rfl,vs,ab,_,yZ (afs (ae ▸ h.PK) (ae ▸ aw)),ae⟩
end Go.Proofs.Ytkoioidpbbbaiaa.Ab


namespace Go.Proofs.Ytkoioidpbbbaiaa.Ab
open Go
section
variable {P:Program} {A:dt} {fn:FuncId} {lo:Nat} {rl:Option Nat}
inductive aiQ (P:Program) (A:dt) (fn:FuncId) (lo:Nat) (rl:Option Nat) (rc:gB) (T:List I) (H:List ar) (Q:cN→List I→List ar→Prop):Prop where
 | mk (cB:List Bool) (c:gB) (he:rc=.loop (some cB) c) (hX:Nat→List I→List ar→Prop) (m:Nat) (hm:m≤ql) (aQ:hX m T H)
   (step:∀ (Hx:List I→List ar→Prop) m T H,hX m T H→(∀ ho bd H',ho<m→hX ho bd H'→Hx bd H')→oa T fun T=>dN P A fn lo rl c T H fun e bd H'=>match e with
    | .normal=>xr (some cB) bd fun bd=>Hx bd H'
    | e=>Q e bd H')
end
theorem PN {cs:List I} {n d:Nat} {c:hB} (h:cs.all (cn d)=true):cn (d+1) (.av cs n c)=true:=h
def agN (l:List Int):I:=.av (l.map hX) l.length (if l.length=1 then .full else .shared)
end Go.Proofs.Ytkoioidpbbbaiaa.Ab


namespace Go.Proofs.Ytkoioidpbbbaiaa.Ab
open Go
instance {d:Nat} {p:Int×Int}:qb (d+1) (p' p):=⟨(inferInstance:qb (d+1) [hX p.1,hX p.2]).pl⟩
instance {d:Nat} {l:List Int}:HK (d+2) (agN l):=⟨(inferInstance:qb (d+1) (l.map hX)).pl⟩
end Go.Proofs.Ytkoioidpbbbaiaa.Ab


namespace Go.Proofs.Ytkoioidpbbbaiaa.Ab
open Go
abbrev qa:=List Int
abbrev qk:=List (Int×Int)
abbrev LV:=List (List Int)
abbrev aiP:=List (List (Int×Int))
abbrev aiH:=Int×List (Int×Int)
abbrev Hm:=cN→List I→List ar→Prop
abbrev qF (l:List Int) (c:hB):I:=.av (l.map hX) l.length c
abbrev q6 (l:List (Int×Int)) (c:hB):I:=.av (l.flatMap p') l.length c
abbrev aiU (b:Int×List (Int×Int)):I:=.agg [hX b.1,.av (b.2.flatMap p') b.2.length .shared]
abbrev aiV (b:Int×List (Int×Int)):ar:=ar.cells [hX b.1,.av (b.2.flatMap p') b.2.length .shared]
def qL {aV:Type} (rs:List IC) (Q:cN→List I→List ar→Prop) (e:aV→I) (v:aV):Prop:=∀ T H,Ib rs (e v) .ret T H→Q .ret T H
theorem p_ {aV:Type} {x v:aV} {e:aV→I} {rs:List IC} {Q:cN→List I→List ar→Prop} {T:List I} {H:List ar} {vs:List I} (h:some x=some v) (jG:qL rs Q e v) [k:HK 8 (e x)] (ab:rX H T rs=some vs) (ae:(jd vs).settle.view.ca=e x) (aw:(e x).G7=false:=by first | rfl | (simp [I.G7];done) | (cases ‹Option _› <;> rfl)):Q .ret T H:=by
 obtain rfl:=Option.some.inj h;exact jG _ _ (IG ab ae aw)
class q5 (H:List ar) (i:Nat) (o:outParam ar):Prop where h:H[i]?=some o
instance {H:List ar} {o:ar}:q5 (H++[o]) H.length o:=⟨Jj _ _⟩
instance {H:List ar} {i:Nat} {o p:ar} [k:q5 H i o]:q5 (H++[p]) i o:=⟨VR k.h⟩
end Go.Proofs.Ytkoioidpbbbaiaa.Ab


namespace Go.Proofs.Ytkoioidpbbbaiaa.Ab
open Go Go.ChangeShapes Go.WideShapes Go.ChangeAt Go.RowKit
def S0 (w:World):Nat→Nat→Prop:=fun b o=>∃ v,w.cell? ⟨b,o,none⟩=some v
theorem mv (w:World):aK w.heap.size (fun _=>none) [] (S0 w) w [] :=
 ⟨rfl,fun _ _ h=>by simp at h,fun _ _ h=>h,fun _ _ h=>by simp at h,se _⟩
theorem Nk {P:Program} {k:FuncId} {args:List I} {vs:List Value} {W:World} {b:Bool} (h:nj P k args (.bool b)) (ad:a5 (fun i=>.arg i) (fun _=>none) [] (S0 W) W args vs) :
  Calls P k vs.toArray W fun e Ic=>e=.returned (.bool b)∧Below W.heap.size W Ic:=by
 have ab:=h.1.2.2 W.heap.size (fun _=>none) [] (S0 W) W vs (mv W) (fun _ _ h=>by simp at h) ad;refine (callsIn_wide.1 ab).mono fun e Ic he=>?_;cases e with
 | returned v =>
   obtain ⟨ay,bU,S',_,az,_,ai,_⟩:=he;cases ai;exact ⟨rfl,az.os,az.tape,az.output,az.size,fun b af=>az.cB b af rfl⟩
 | panicked c=>exact he.elim
 | outgrown=>exact he.elim
section
variable {H:Type} {enc:TypeId×Value→H} {P:Program} {w:World}
theorem T5 {W Ic:World} (K:Kids P (·<P.types.size)) (bQ:∀ t e,t<P.types.size→P.underlying t=some (.slice e)→0<P.cellsOf e) (I9:Below W.heap.size W Ic) {sp:Nat→Bool} :
  ∀ {ts:List TypeId} {vs:List Value} {fD:List (DataW H)} {p:List MemPlace},(∀ t∈ts,t<P.types.size)→DataW.TrodAll enc P W 0 (fun _=>true) true ts vs fD p→(∀ x∈p,sp x.block=true)→(∀ x∈p,x.block<W.heap.size)→DataW.TrodAll enc P Ic 0 sp true ts vs fD p
 | [],_,_,_,_,aL,_,_=>by obtain ⟨rfl,rfl,rfl⟩:=trodAll_nil aL;exact trodAll_mk0
 | t::ts,_,_,_,bZ,aL,MU,aR=>by
   obtain ⟨v,vs,d,fD,a,b,rfl,rfl,rfl,⟨n,aI⟩,ae⟩:=trodAll_cons aL;refine ⟨a,b,⟨n,?_⟩,T5 K bQ I9 (fun t ax=>bZ t (tV _ ax)) ae (fun x aj=>MU x (vE _ aj)) (fun x aj=>aR x (vE _ aj)),rfl⟩;exact DataW.trod_stays K (fun {t e} ax he=>bQ t e ax he) (fun h=>by cases h) (bZ t tZ) aI (fun x aj=>I9.same (aR x (vF _ aj))) fun x aj=>MU x (vF _ aj)
theorem M3 {f:Func} {s:ChangeSpec} {again:Bool} {W Ic:World} {args:Array Value} {t:TypeId} {fD gs:List (DataW H)} {before:List MemPlace}
  (ao:laidOutB P=true) (hm:mapsRowed P=true) (bj:((List.range P.types.size).all fun t=>match P.underlying t with | some (.slice e)=>decide (0<P.cellsOf e) | _=>true)=true)
  (ax:f.resultTypes=#[t]) (VY:P.underlying t=some .bool) (kO:f.params.toList.all (fun t=>decide (t<P.types.size))=true) (R7:s.vars=[])
  (l9:DataW.Whole enc P f.params.toList s.vars false W args.toList fD gs before) (I9:Below W.heap.size W Ic)
  (ah:s.fn H (fD++gs)={ results:=[.lit (.bool true)],args:=fD }):s.post enc P f false true false again W args (.bool true) Ic:=by
 have aR:=l9.lt;have acD:=l9;obtain ⟨p,q,aL,jH,rfl,C3,jS⟩:=acD;rw [R7] at jH;obtain ⟨rfl,rfl⟩:=trodVars_none jH;rw [sN] at *;have K:Kids P (·<P.types.size):=kids_rows ao hm;have bQ:=slices_full_of P bj;have bZ:∀ t∈f.params.toList,t<P.types.size:=fun t h=>by
  have:=sr.1 kO t h;simpa using this
 have again:∀ sp:Nat→Bool,(∀ x∈p,sp x.block=true)→DataW.TrodAll enc P Ic 0 sp true f.params.toList args.toList fD p:=fun sp MU =>
  T5 K bQ I9 bZ aL MU aR
 have kQ:∀ (b:Nat) (sp:Nat→Bool) (a1:Bool),DataW.TrodAll enc P Ic b sp a1 f.resultTypes.toList ((Value.bool true).resultList f.resultTypes.size) (s.fn H fD).results []:=fun b sp a1=>by
  rw [ah,ax];exact trodAll_mk1 (shut_bool VY true)
 have CK:∀ sp:Nat→Bool,(∀ x∈p,sp x.block=true)→DataW.TrodAll enc P Ic 0 sp true f.params.toList args.toList (s.fn H fD).args p:=fun sp MU=>by
  rw [ah];exact again sp MU
 have ad:∀ sp:Nat→Bool,DataW.TrodVars enc P Ic sp s.vars (s.fn H fD).vars []:=fun sp=>by
  rw [ah,R7];rfl
 have hold:∀ x∈p,(fun b=>decide (b<W.heap.size)) x.block=true:=fun x aj=>by simpa using aR x aj
 refine ⟨fD,[],p,[],p,[],l9,by rw [sN];exact kQ _ _ _,by rw [sN];exact CK _ hold,by rw [sN];exact ad _,I9.frame _,fun _=>?_⟩;refine ⟨fun j u r hu ai=>?_,(s.fn H fD).results++(s.fn H fD).args,[],p,⟨p,[],?_,?_,by simp,?_,fun h=>by cases h⟩,fun x aj _=>aj⟩
 ·rw [ax] at hu ai;cases j with
  | zero=>simp [Value.resultList] at hu ai;subst hu;subst ai;exact okWide_bool_mk VY true
  | succ j=>simp at hu
 ·have:=trodAll_append (CK (fun _=>true) fun _ _=>rfl) (kQ 0 (fun _=>true) true);simpa using this
 ·rw [R7];rfl
 ·intro b o af;have:=aR _ af;rw [I9.frozen (p:=⟨b,o,none⟩) this];exact C3 b o af
theorem Sf {α:Type} {f:α→I} {R:α→Prop}:∀ {l:List I},(∀ u∈l,∃ x,u=f x∧R x)→∃ gu:List α,l=gu.map f∧∀ x∈gu,R x
 | [],_=>⟨[],rfl,by simp⟩
 | u::l,h=>by
   obtain ⟨x,rfl,aj⟩:=h u (by simp);obtain ⟨gu,rfl,bj⟩:=Sf (l:=l) fun y aY=>h y (by simp [aY]);exact ⟨x::gu,rfl,by simpa using ⟨aj,bj⟩⟩
abbrev Jw (enc:TypeId×Value→H) (P:Program) (w:World) (e:TypeId) (Q:I→Prop):Prop :=
 ∀ n v y,DataW.trod enc P w 0 (fun _=>true) true n e [v]=some y→∃ u,u.plain=true∧v.oneCell'=true∧Rel [] (S0 w) w u v∧Q u
theorem Pg {e:TypeId} {k:IntKind} (ax:P.underlying e=some (.int k)):Jw enc P w e fun u=>∃ x,u=.int k x∧(Lit.int k x).wf=true:=by
 intro n v y h;obtain ⟨x,aj,_,hw⟩:=DataW.trod_int ax h;injection aj with aj _;subst aj;exact ⟨.int k x,rfl,rfl,.int k x,x,rfl,hw⟩
instance:Inhabited I:=⟨.a0⟩
theorem U6 {t e:TypeId} (ax:P.underlying t=some (.slice e)) (ce:P.cellsOf e=1) {Q:I→Prop} (he:Jw enc P w e Q) :
  Jw enc P w t fun u=>∃ l:List I,u=.av l l.length .shared∧l.length≤maxLen∧∀ u∈l,Q u:=by
 intro fuel v x h;rcases Deep.open_slice1 ax ce h with ⟨ad,_⟩ | ⟨a,len,cap,m,n,V,D,Q9,ad,_,ao,hm,pP,_,aj⟩
 ·injection ad with ad _;subst ad;exact ⟨_,rfl,rfl,.b2 _ _,[],rfl,sH _,by simp⟩
 ·injection ad with ad _;subst ad;have pP:m=cap:=pP;have aj:∀ i,i<cap→w.cell? (a.add i)=some (V i)∧DataW.trod enc P w 0 (fun _=>true) true n e [V i]=some (D i,Q9 i):=fun i hi=>aj i (by omega);by_cases ak:cap=0
  ·(subst ak;obtain rfl:len=0:=by omega);exact ⟨_,rfl,rfl,.b2 _ _,[],rfl,sH _,by simp⟩
  ·obtain ⟨b,o,sp⟩:=a;have aQ:=(aj 0 (by omega)).1;(have ah:sp=none:=by simpa [Addr.add] using World.cell?_spot aQ);subst ah;obtain ⟨U,HD⟩:=Deep.choose_lt (α:=I) (n:=len) (p:=fun i u=>u.plain=true∧(V i).oneCell'=true∧Rel [] (S0 w) w u (V i)∧Q u) fun i hi=>he n (V i) _ (aj i (by omega)).2;refine ⟨.av ((List.range len).map U) len .shared,rfl,rfl,.av _ _ _ b o cap V (by simp) ao (by simp) (fun j u aw=>?_) (fun j u aw=>?_),(List.range len).map U,by simp,by simp;omega,fun u hu=>?_⟩
   ·(have ml:j<len:=by have:=(sd.1 aw).1;simpa using this);simp [ml] at aw;subst aw;(have bx:w.cell? ⟨b,o+j,none⟩=some (V j):=by have:=(aj j (by omega)).1;rwa [add_lit] at this);exact ⟨⟨_,bx⟩,bx,(HD j ml).1,(HD j ml).2.1⟩
   ·(have ml:j<len:=by have:=(sd.1 aw).1;simpa using this);simp [ml] at aw;subst aw;exact (HD j ml).2.2.1
   ·obtain ⟨j,aw,rfl⟩:=sD.1 hu;exact (HD j (sJ.1 aw)).2.2.2
def I6 (x:Int):Prop := -9223372036854775808≤x∧x≤9223372036854775807
theorem wf_i64 {x:Int} (h:(Lit.int .i64 x).wf=true):I6 x:=by
 have ab:IntKind.i64.min=-9223372036854775808:=rfl;have ae:IntKind.i64.max=9223372036854775807:=rfl;simp only [Lit.wf,sn,decide_eq_true_eq] at h;exact ⟨by omega,by omega⟩
theorem wf_u8 {x:Int} (h:(Lit.int .u8 x).wf=true):0≤x∧x≤255:=by
 have ab:IntKind.u8.min=0:=rfl;have ae:IntKind.u8.max=255:=rfl;simp only [Lit.wf,sn,decide_eq_true_eq] at h;exact ⟨by omega,by omega⟩
structure Q7 (l:List Int):Prop where
 n:l.length≤9223372036854775807
 v:∀ x∈l,I6 x
structure aiO (l:List (List Int)):Prop where
 n:l.length≤9223372036854775807
 v:∀ r∈l,Q7 r
theorem PG {n:Nat} (h:n≤maxLen):n≤9223372036854775807:=by unfold maxLen at h;omega
theorem abJ {t e:TypeId} (ax:P.underlying t=some (.slice e)) (ce:P.cellsOf e=1) (he:P.underlying e=some (.int .i64)):Jw enc P w t fun u=>∃ l,u=oW l∧Q7 l:=by
 intro n v y h;obtain ⟨u,aA,aG,aT,l,rfl,bq,bf⟩:=U6 ax ce (Pg he) n v y h;obtain ⟨gu,rfl,bc⟩:=Sf bf;exact ⟨_,aA,aG,aT,gu,by simp [oW],by simpa using PG bq,fun x aj=>wf_i64 (bc x aj)⟩
def NN (l:List Int):I:=.av (l.map (.int .u8)) l.length .shared
structure TW (l:List Int):Prop where
 n:l.length≤9223372036854775807
 v:∀ x∈l,0≤x∧x≤255
theorem abK {t e:TypeId} (ax:P.underlying t=some (.slice e)) (ce:P.cellsOf e=1) (he:P.underlying e=some (.int .u8)):Jw enc P w t fun u=>∃ l,u=NN l∧TW l:=by
 intro n v y h;obtain ⟨u,aA,aG,aT,l,rfl,bq,bf⟩:=U6 ax ce (Pg he) n v y h;obtain ⟨gu,rfl,bc⟩:=Sf bf;exact ⟨_,aA,aG,aT,gu,by simp [NN],by simpa using PG bq,fun x aj=>wf_u8 (bc x aj)⟩
abbrev Arg (enc:TypeId×Value→H) (P:Program) (w:World) (base:Nat) (t:TypeId) (Q:I→Prop):Prop :=
 ∀ v d p,Value.okWide P w .any base t v→DataW.Trod enc P w 0 (fun _=>true) true t v d p→∃ u,u.plain=true∧Rel [] (S0 w) w u v∧Q u
theorem UZ {base:Nat} {t:TypeId} {k:IntKind} (ax:P.underlying t=some (.int k)):Arg enc P w base t fun u=>∃ x,u=.int k x∧(Lit.int k x).wf=true:=by
 intro v d p ad a1;obtain ⟨x,rfl,_,_,hw⟩:=open_int ax ad a1;exact ⟨.int k x,rfl,.int k x,x,rfl,hw⟩
theorem Rt {base:Nat} {t e:TypeId} (ax:P.underlying t=some (.slice e)) {Q:I→Prop} (ak:Jw enc P w t Q):Arg enc P w base t Q:=by
 intro v d p ad ⟨n,a1⟩;obtain ⟨a,len,cap,rfl⟩:=okWide_slice ax ad;obtain ⟨u,aA,_,aT,bq⟩:=ak n _ _ a1;exact ⟨u,aA,aT,bq⟩
theorem ahp:a5 (fun i=>.arg i) (fun _=>none) [] (S0 w) w [] []:=⟨rfl,by simp,by simp⟩
theorem Zc {us:List I} {vs:List Value} (h:us.length=vs.length) (ai:∀ (i:Nat) (u:I) (v:Value),us[i]?=some u→vs[i]?=some v→u.plain=true∧Rel [] (S0 w) w u v):a5 (fun i=>.arg i) (fun _=>none) [] (S0 w) w us vs :=
 ⟨h,fun i u v hu ad=>(ai i u v hu ad).2,fun i u v hu ad=>aU.b3 (ai i u v hu ad).1⟩
theorem Zd {yk fx:I} {v0 v1:Value} (Jo:yk.plain=true) (hQ:Rel [] (S0 w) w yk v0) (bT:fx.plain=true) (aS:Rel [] (S0 w) w fx v1):a5 (fun i=>.arg i) (fun _=>none) [] (S0 w) w [yk,fx] [v0,v1] :=
 Zc rfl fun i u v hu ad=>by
  match i with
  | 0=>simp at hu ad;subst hu;subst ad;exact ⟨Jo,hQ⟩
  | 1=>simp at hu ad;subst hu;subst ad;exact ⟨bT,aS⟩
  | i+2=>simp at hu
theorem Tq {yk fx gq:I} {v0 v1 v2:Value} (Jo:yk.plain=true) (hQ:Rel [] (S0 w) w yk v0) (bT:fx.plain=true) (aS:Rel [] (S0 w) w fx v1) (b0:gq.plain=true) (bh:Rel [] (S0 w) w gq v2) :
  a5 (fun i=>.arg i) (fun _=>none) [] (S0 w) w [yk,fx,gq] [v0,v1,v2] :=
 Zc rfl fun i u v hu ad=>by
  match i with
  | 0=>simp at hu ad;subst hu;subst ad;exact ⟨Jo,hQ⟩
  | 1=>simp at hu ad;subst hu;subst ad;exact ⟨bT,aS⟩
  | 2=>simp at hu ad;subst hu;subst ad;exact ⟨b0,bh⟩
  | i+3=>simp at hu
end
end Go.Proofs.Ytkoioidpbbbaiaa.Ab


namespace Go.Proofs.Ytkoioidpbbbaiaa.Ab
open Go Go.ChangeShapes Go.WideShapes Go.ChangeAt Go.RowKit
section
variable {H:Type} {enc:TypeId×Value→H} {P:Program} {w:World}
theorem Sg {α β:Type} {f:α→β} {R:α→Prop}:∀ {l:List β},(∀ u∈l,∃ x,u=f x∧R x)→∃ gu:List α,l=gu.map f∧∀ x∈gu,R x
 | [],_=>⟨[],rfl,by simp⟩
 | u::l,h=>by
   obtain ⟨x,rfl,aj⟩:=h u (by simp);obtain ⟨gu,rfl,bj⟩:=Sg (l:=l) fun y aY=>h y (by simp [aY]);exact ⟨x::gu,rfl,by simpa using ⟨aj,bj⟩⟩
def O9 (enc:TypeId×Value→H) (P:Program) (w:World) (fs:Array Field) (IB:List (I→Prop)):Prop :=
 IB.length=fs.size∧∀ (i:Nat) (f:Field) (q:I→Prop),fs[i]?=some f→IB[i]?=some q→f.offset=i∧P.cellsOf f.type=1∧Jw enc P w f.type q
def Q5 (IB:List (I→Prop)) (us:List I):Prop:=us.length=IB.length∧∀ (i:Nat) (u:I) (q:I→Prop),us[i]?=some u→IB[i]?=some q→q u
theorem ag8 {t:TypeId} {fs:Array Field} {IB:List (I→Prop)} (ax:P.underlying t=some (.struct fs)) (ak:P.cellsOf t=fs.size) (aP:O9 enc P w fs IB) {n:Nat} {cs:List Value} {y:DataW H×List MemPlace}
  (h:DataW.trod enc P w 0 (fun _=>true) true n t cs=some y):∃ us:List I,Q5 IB us∧cs.length=us.length∧∀ (j:Nat) (u:I) (v:Value),us[j]?=some u→cs[j]?=some v→u.plain=true∧v.oneCell'=true∧Rel [] (S0 w) w u v:=by
 obtain ⟨xs,m,_,_,ao,R8,aj⟩:=DataW.trod_struct ax h;rw [ak] at ao;have each:∀ i,i<fs.size→∃ u:I,(∀ v,cs[i]?=some v→u.plain=true∧v.oneCell'=true∧Rel [] (S0 w) w u v)∧∀ q,IB[i]?=some q→q u:=fun i hi=>by
  have ab:fs[i]?=some fs[i]:=Array.getElem?_eq_getElem hi;have a_:i<IB.length:=by rw [aP.1];exact hi
  have ae:IB[i]?=some IB[i]:=sk a_;obtain ⟨e1,b9,dx⟩:=aP.2 i _ _ ab ae;have aF:=aj i _ ab;rw [e1,b9] at aF;have V2:i<cs.length:=by omega
  rw [s9 V2,sk (by omega)] at aF;simp only [List.take_succ_cons,List.take_zero] at aF;obtain ⟨u,aA,aG,aT,bq⟩:=dx _ _ _ aF;refine ⟨u,fun v ad=>?_,fun q Du=>?_⟩
  ·rw [sk V2] at ad;cases ad;exact ⟨aA,aG,aT⟩
  ·rw [ae] at Du;cases Du;exact bq
 obtain ⟨U,HD⟩:=Deep.choose_lt (α:=I) (n:=fs.size) (p:=fun i u=>(∀ v,cs[i]?=some v→u.plain=true∧v.oneCell'=true∧Rel [] (S0 w) w u v)∧∀ q,IB[i]?=some q→q u) each;have get:∀ (i:Nat) (u:I),((List.range fs.size).map U)[i]?=some u→i<fs.size∧u=U i:=fun i u hu=>by
  have hi:i<fs.size:=by have:=(sd.1 hu).1;simpa using this
  simp [hi] at hu;exact ⟨hi,hu.symm⟩
 refine ⟨(List.range fs.size).map U,⟨by simp [aP.1],fun i u q hu a_=>?_⟩,by simp [ao],fun j u v hu ad=>?_⟩
 ·obtain ⟨hi,rfl⟩:=get i u hu;exact (HD i hi).2 q a_
 ·obtain ⟨hi,rfl⟩:=get j u hu;exact (HD j hi).1 v ad
theorem Vu {s:Nat}:∀ {L:List (List I)} {j:Nat} {u:I},(∀ l∈L,l.length=s)→0<s→L.flatten[j]?=some u→∃ l,L[j / s]?=some l∧l[j % s]?=some u
 | [],j,u,_,_,h=>by simp at h
 | l::L,j,u,ao,ah,h=>by
   have aQ:l.length=s:=ao l (by simp);rw [List.flatten_cons] at h;by_cases aw:j<s
   ·rw [sj (by omega)] at h;exact ⟨l,by rw [Nat.div_eq_of_lt aw];rfl,by rw [Nat.mod_eq_of_lt aw];exact h⟩
   ·rw [sv (by omega),aQ] at h;obtain ⟨k,a,b⟩:=Vu (s:=s) (fun x aj=>ao x (by simp [aj])) ah h;(have e1:j / s=(j-s) / s+1:=by rw [Nat.div_eq_sub_div ah (by omega)]);(have b9:j % s=(j-s) % s:=by rw [Nat.mod_eq_sub_mod (by omega)]);exact ⟨k,by rw [e1];simpa using a,by rw [b9];exact b⟩
end
end Go.Proofs.Ytkoioidpbbbaiaa.Ab


namespace Go.Proofs.Ytkoioidpbbbaiaa.Ab
open Go
instance {d:Nat} {l:List I} [h:qb d l]:qb d (l.map I.g9):=⟨by
 have h:=h.pl;rw [sr] at h ⊢;intro u hu;obtain ⟨v,ad,rfl⟩:=sD.1 hu;have:=h v ad;cases d with
 | zero=>simp [cn] at this
 | succ d=>cases v with
   | av cs n c=>cases c <;> exact this
   | _=>exact this⟩
end Go.Proofs.Ytkoioidpbbbaiaa.Ab


namespace Go.Proofs.Ytkoioidpbbbaiaa.Ab
open Go
def qm (x:(Int×(Int×Int))):List I:=[(hX x.1),(hX x.2.1),(hX x.2.2)]
theorem Hw (x:(Int×(Int×Int))):(qm x).length=3:=rfl
instance {d:Nat} {x:(Int×(Int×Int))}:qb (d+1) (qm x):=⟨(inferInstance:qb (d+1) [(hX x.1),(hX x.2.1),(hX x.2.2)]).pl⟩
end Go.Proofs.Ytkoioidpbbbaiaa.Ab


namespace Go.Proofs.Ytkoioidpbbbaiaa.Ab
open Go Go.ChangeShapes Go.WideShapes Go.ChangeAt Go.RowKit
set_option maxRecDepth 100000
section
variable {H:Type} {enc:TypeId×Value→H} {P:Program} {w:World}
def Jx (enc:TypeId×Value→H) (P:Program) (w:World) (t:TypeId) (sz:Nat) (Q:List I→Prop):Prop :=
 ∀ (fuel:Nat) (cs:List Value) (y:DataW H×List MemPlace),DataW.trod enc P w 0 (fun _=>true) true fuel t cs=some y →
   ∃ us:List I,Q us∧us.length=sz∧cs.length=sz∧∀ (j:Nat) (u:I) (v:Value),us[j]?=some u→cs[j]?=some v→u.plain=true∧v.oneCell'=true∧Rel [] (S0 w) w u v
theorem U' {t:TypeId} {f1 f2:Field} {n1 n2:Nat} {oX lG:List I→Prop} (ax:P.underlying t=some (.struct #[f1,f2])) (ak:P.cellsOf t=n1+n2) (bw:f1.offset=0) (bJ:f2.offset=n1) (a7:P.cellsOf f1.type=n1) (a9:P.cellsOf f2.type=n2) (ab:Jx enc P w f1.type n1 oX) (ae:Jx enc P w f2.type n2 lG) :
  Jx enc P w t (n1+n2) fun us=>∃ a b,us=a++b∧oX a∧lG b:=by
 intro fuel cs y h;obtain ⟨xs,m,_,_,ao,R8,aj⟩:=DataW.trod_struct ax h;rw [ak] at ao;have R8:xs.length=2:=R8;have e1:=aj 0 f1 rfl;have b9:=aj 1 f2 rfl;rw [bw,a7,tt,sk (by omega)] at e1;rw [bJ,a9,sk (by omega)] at b9;obtain ⟨a,aA,aG,aT,bq⟩:=ab _ _ _ e1;obtain ⟨b,bl,cr,eY,lN⟩:=ae _ _ _ b9;refine ⟨a++b,⟨a,b,rfl,aA,bl⟩,by rw [sE];omega,ao,fun j u v hu ad=>?_⟩;by_cases aw:j<n1
 ·rw [sj (by omega)] at hu;exact bq j u v hu (by rw [sL,if_pos aw];exact ad)
 ·rw [sv (by omega)] at hu;have ajf:j-a.length<b.length:=(sd.1 hu).1;refine lN (j-a.length) u v hu ?_;rw [sL,if_pos (by omega),sU,show n1+(j-a.length)=j by omega];exact ad
theorem U8 {t:TypeId} {Q:I→Prop} (h:Jw enc P w t Q) (ah:∀ (fuel:Nat) (cs:List Value) (y:DataW H×List MemPlace),DataW.trod enc P w 0 (fun _=>true) true fuel t cs=some y→cs.length=1):Jx enc P w t 1 fun us=>∃ u,us=[u]∧Q u:=by
 intro fuel cs y aY;have ao:=ah _ _ _ aY
 match cs,ao with
 | [c],_ =>
   obtain ⟨u,aA,aG,aT,bq⟩:=h _ _ _ aY;refine ⟨[u],⟨u,rfl,bq⟩,rfl,rfl,fun j bG v hu ad=>?_⟩
   match j with
   | 0=>simp at hu ad;subst hu;subst ad;exact ⟨aA,aG,aT⟩
   | j+1=>simp at hu
theorem U_ {t:TypeId} {fs:Array Field} {IB:List (I→Prop)} (ax:P.underlying t=some (.struct fs)) (ak:P.cellsOf t=fs.size) (aP:O9 enc P w fs IB):Jx enc P w t fs.size (Q5 IB):=fun fuel cs y h=>by
 obtain ⟨us,ab,ae,aF⟩:=ag8 ax ak aP h;have:=ab.1;have:=aP.1;exact ⟨us,ab,by omega,by omega,aF⟩
theorem abh {base:Nat} {t:TypeId} {fs:Array Field} {sz:Nat} {Q:List I→Prop} (ax:P.underlying t=some (.struct fs)) (aP:Jx enc P w t sz Q):Arg enc P w base t fun u=>∃ us,u=.agg us∧Q us:=by
 intro v d p ad ⟨n,a1⟩;unfold Value.okWide at ad;rw [ax] at ad;obtain ⟨cs,rfl,bQ,_⟩:=ad;obtain ⟨us,ab,ae,GO,aF⟩:=aP _ _ _ a1;have ae:cs.toList.length=us.length:=by rw [ae];exact GO
 refine ⟨.agg us,rfl,.agg us cs (by simpa using ae) (fun u hu=>?_) (fun v ad=>?_) fun j u v hu ad=>?_,us,rfl,ab⟩
 ·obtain ⟨j,aw⟩:=sZ.1 hu;have aR:j<cs.toList.length:=by rw [ae];exact (sd.1 aw).1
  exact (aF j u _ aw (sk aR)).1
 ·obtain ⟨j,aw⟩:=sZ.1 ad;have aR:j<us.length:=by rw [←ae];exact (sd.1 aw).1
  exact (aF j _ v (sk aR) aw).2.1
 ·exact (aF j u v hu (by show cs.toList[j]?=some v;simpa using ad)).2.2
theorem U7 {t e:TypeId} {sz:Nat} {Q:List I→Prop} (ax:P.underlying t=some (.slice e)) (ak:P.cellsOf e=sz) (aQ:0<sz) (aP:Jx enc P w e sz Q) :
  Jw enc P w t fun u=>∃ L:List (List I),u=.av L.flatten L.length .shared∧L.length≤maxLen∧∀ us∈L,Q us:=by
 intro fuel v x h;rcases Deep.open_slice ax h with ⟨ad,_⟩ | ⟨a,len,cap,m,n,D,Q9,ad,_,ao,hm,pP,_,aj⟩
 ·injection ad with ad _;subst ad;exact ⟨_,rfl,rfl,.b2 _ _,[],rfl,sH _,by simp⟩
 ·injection ad with ad _;subst ad;have pP:m=cap:=pP;by_cases CO:cap=0
  ·(subst CO;obtain rfl:len=0:=by omega);exact ⟨_,rfl,rfl,.b2 _ _,[],rfl,sH _,by simp⟩
  ·have each:∀ i,i<len→∃ q:List I×List Value,Q q.1∧q.1.length=sz∧q.2.length=sz∧w.cells? 0 (a.add (i*sz)) sz=some q.2∧∀ (j:Nat) (u:I) (v:Value),q.1[j]?=some u→q.2[j]?=some v→u.plain=true∧v.oneCell'=true∧Rel [] (S0 w) w u v:=fun i hi=>by
    obtain ⟨c7,ab,ae⟩:=aj i (by omega);rw [ak] at ab;obtain ⟨us,bl,cr,eY,lN⟩:=aP _ _ _ ae;exact ⟨(us,c7),bl,cr,eY,ab,lN⟩
   obtain ⟨q0,_,_,Pz,_⟩:∃ q:List Value,True∧True∧w.cells? 0 (a.add (0*sz)) sz=some q∧True:=by
    obtain ⟨c7,ab,_⟩:=aj 0 (by omega);rw [ak] at ab;exact ⟨c7,trivial,trivial,ab,trivial⟩
   obtain ⟨b,o,sp⟩:=a;have ah:sp=none:=by
    obtain ⟨_,hlen,bx⟩:=World.cells?_some Pz;have:=bx 0 aQ;rw [sk (by omega)] at this;simpa [Addr.add] using World.cell?_spot this
   subst ah;obtain ⟨U,HD⟩:=Deep.choose_lt (α:=List I×List Value) (n:=len) (p:=fun i q=>Q q.1∧q.1.length=sz∧q.2.length=sz∧w.cells? 0 (Addr.add ⟨b,o,none⟩ (i*sz)) sz=some q.2∧∀ (j:Nat) (u:I) (v:Value),q.1[j]?=some u→q.2[j]?=some v→u.plain=true∧v.oneCell'=true∧Rel [] (S0 w) w u v) each;have acC:∀ i,i<len→(U i).1.length=sz:=fun i hi=>(HD i hi).2.1;have cY:∀ l∈((List.range len).map fun i=>(U i).1),l.length=sz:=fun l c8=>by
    obtain ⟨i,hi,rfl⟩:=sD.1 c8;exact acC i (sJ.1 hi)
   let V:Nat→Value:=fun j=>((U (j / sz)).2)[j % sz]!
   have key:∀ (j:Nat) (u:I),(((List.range len).map fun i=>(U i).1).flatten)[j]?=some u→w.cell? ⟨b,o+j,none⟩=some (V j)∧u.plain=true∧(V j).oneCell'=true∧Rel [] (S0 w) w u (V j):=fun j u aw=>by
    obtain ⟨l,cc,b_⟩:=Vu cY aQ aw;(have hi:j / sz<len:=by have:=(sd.1 cc).1;simpa using this);simp [hi] at cc;subst cc;obtain ⟨a7,B',a9,br,b5⟩:=HD _ hi;have Kl:j % sz<sz:=Nat.mod_lt _ aQ;have ad:(U (j / sz)).2[j % sz]?=some (V j):=by
     show _=some ((U (j / sz)).2[j % sz]!);rw [sk (by omega),getElem!_pos _ _ (by omega)]
    obtain ⟨_,_,bx⟩:=World.cells?_some br;have JX:=bx (j % sz) Kl;rw [ad] at JX;have e:(Addr.add (Addr.add ⟨b,o,none⟩ (j / sz*sz)) (j % sz))=⟨b,o+j,none⟩:=by
     simp only [add_lit];congr 1;have:=Nat.div_add_mod' j sz;omega
    rw [e] at JX;exact ⟨JX,b5 _ _ _ b_ ad⟩
   refine ⟨.av ((List.range len).map fun i=>(U i).1).flatten len .shared,rfl,rfl,.av _ _ _ b o cap V (by simp) ao (by simp) (fun j u aw=>?_) (fun j u aw=>?_),(List.range len).map fun i=>(U i).1,by simp,by simp;omega,fun us hu=>?_⟩
   ·obtain ⟨aJ,aN,b',_⟩:=key j u aw;exact ⟨⟨_,aJ⟩,aJ,aN,b'⟩
   ·exact (key j u aw).2.2.2
   ·obtain ⟨j,aw,rfl⟩:=sD.1 hu;exact (HD j (sJ.1 aw)).1
end
section
variable {H:Type} {enc:TypeId×Value→H} {w:World} {base:Nat}
def La:I→Prop:=fun u=>∃ x,u=hX x∧I6 x
theorem Pf:Jw enc Try.prog w 2 La:=fun n v y h=>by
 obtain ⟨u,a,b,c,x,rfl,d⟩:=Pg (P:=Try.prog) Try.underlying2 n v y h;exact ⟨_,a,b,c,x,rfl,wf_i64 d⟩
theorem abL:Jw enc Try.prog w 3 La:=fun n v y h=>by
 obtain ⟨u,a,b,c,x,rfl,d⟩:=Pg (P:=Try.prog) Try.underlying3 n v y h;exact ⟨_,a,b,c,x,rfl,wf_i64 d⟩
theorem Xe {us:List I} (h:Q5 [La,La] us):∃ p:Int×Int,us=p' p∧I6 p.1∧I6 p.2:=by
 obtain ⟨ao,h⟩:=h
 match us,ao with
 | [a,b],_ =>
   obtain ⟨x,rfl,aj⟩:=h 0 _ _ rfl rfl;obtain ⟨y,rfl,aY⟩:=h 1 _ _ rfl rfl;exact ⟨(x,y),rfl,aj,aY⟩
def TY (us:List I):Prop:=∃ p:Int×Int,us=p' p∧I6 p.1∧I6 p.2
theorem Jx.mono {P:Program} {t:TypeId} {n:Nat} {Q R:List I→Prop} (h:Jx enc P w t n Q) (k:∀ us,Q us→R us):Jx enc P w t n R:=fun fuel cs y aY=>by
 obtain ⟨us,ab,ae⟩:=h fuel cs y aY;exact ⟨us,k us ab,ae⟩
theorem aci : O9 enc Try.prog w #[{ name := "Pull", type := 2, offset := 0, embedded := false, tag := "", pkgPath := "", byteOffset := 0 }, { name := "More", type := 2, offset := 1, embedded := false, tag := "", pkgPath := "", byteOffset := 8 }] [La, La] := ⟨rfl, fun i f q aP a_ => by
 match i with
 | 0=>simp at aP a_;subst aP;subst a_;exact ⟨rfl,by kernel_rfl,Pf⟩
 | 1=>simp at aP a_;subst aP;subst a_;exact ⟨rfl,by kernel_rfl,Pf⟩
 | i+2=>simp at a_⟩
theorem ach : O9 enc Try.prog w #[{ name := "Lo", type := 2, offset := 0, embedded := false, tag := "", pkgPath := "", byteOffset := 0 }, { name := "Hi", type := 2, offset := 1, embedded := false, tag := "", pkgPath := "", byteOffset := 8 }] [La, La] := ⟨rfl, fun i f q aP a_ => by
 match i with
 | 0=>simp at aP a_;subst aP;subst a_;exact ⟨rfl,by kernel_rfl,Pf⟩
 | 1=>simp at aP a_;subst aP;subst a_;exact ⟨rfl,by kernel_rfl,Pf⟩
 | i+2=>simp at a_⟩
theorem U9:Jx enc Try.prog w 52 2 TY:=(U_ Try.underlying52 (by kernel_rfl) aci).mono fun _ h=>Xe h
theorem abO:Jx enc Try.prog w 24 2 TY:=(U_ Try.underlying24 (by kernel_rfl) ach).mono fun _ h=>Xe h
def TV (bp:List (Int×Int)):Prop:=bp.length≤9223372036854775807∧∀ p∈bp,I6 p.1∧I6 p.2
abbrev TX (bp:List (Int×Int)):I:=.av (bp.flatMap p') bp.length .shared
theorem abM:Jw enc Try.prog w 22 fun u=>∃ bp,u=TX bp∧TV bp:=fun n v y h=>by
 obtain ⟨u,a,b,c,L,rfl,ao,fm⟩:=U7 Try.underlying22 (by kernel_rfl) (by decide) U9 n v y h;obtain ⟨bp,rfl,aB⟩:=Sg (f:=p') (R:=fun p:Int×Int=>I6 p.1∧I6 p.2) fun us hu=>by
  obtain ⟨p,e,ab,ae⟩:=fm us hu;exact ⟨p,e,ab,ae⟩
 refine ⟨_,a,b,c,bp,?_,by have:=PG ao;simpa using this,aB⟩;simp [TX,List.flatMap_def]
structure aaz (p:(List (Int×Int))×(Int×Int)):Prop where
 s:TV p.1
 lo:I6 p.2.1
 hi:I6 p.2.2
theorem aff (fuel:Nat) (cs:List Value) (y:DataW H×List MemPlace) (h:DataW.trod enc Try.prog w 0 (fun _=>true) true fuel 22 cs=some y):cs.length=1:=by
 rcases Deep.open_slice Try.underlying22 h with ⟨ad,_⟩ | ⟨a,len,cap,m,n,D,Q9,ad,_⟩
 ·rw [ad];rfl
 ·rw [ad];rfl
theorem afe (fuel:Nat) (cs:List Value) (y:DataW H×List MemPlace) (h:DataW.trod enc Try.prog w 0 (fun _=>true) true fuel 3 cs=some y):cs.length=1:=by
 obtain ⟨x,aj,_,hw⟩:=DataW.trod_int Try.underlying3 h;rw [aj];rfl
theorem NR:Arg enc Try.prog w base 26 fun u=>∃ p:(List (Int×Int))×(Int×Int),u=.agg [.av (p.1.flatMap p') p.1.length .shared,hX p.2.1,hX p.2.2]∧aaz p:=by
 intro v d p ad a1;obtain ⟨u,a,b,us,rfl,x,y,rfl,⟨fx,rfl,bp,rfl,kO⟩,⟨ab8,rfl,ab,ae⟩⟩:=abh (P:=Try.prog) (enc:=enc) (w:=w) (base:=base) Try.underlying26 (U' Try.underlying26 (by kernel_rfl) rfl rfl (by kernel_rfl) (by kernel_rfl) (U8 abM aff) abO) v d p ad a1;exact ⟨_,a,b,(bp,ab8),rfl,kO,ab,ae⟩
theorem abg:Arg enc Try.prog w base 27 fun u=>∃ l,u=oW l∧Q7 l:=Rt Try.underlying27 (abJ Try.underlying27 (by kernel_rfl) Try.underlying3)
theorem Pb:Arg enc Try.prog w base 37 fun u=>∃ l,u=NN l∧TW l:=Rt Try.underlying37 (abK Try.underlying37 (by kernel_rfl) Try.underlying5)
theorem abk:Arg enc Try.prog w base 5 fun u=>∃ x,u=.int .u8 x∧0≤x∧x≤255:=fun v d p ad a1=>by
 obtain ⟨u,a,b,x,rfl,h⟩:=UZ (P:=Try.prog) (enc:=enc) (w:=w) (base:=base) Try.underlying5 v d p ad a1;exact ⟨_,a,b,x,rfl,wf_u8 h⟩
def TU (l:List (Int×(Int×Int))):Prop:=l.length≤9223372036854775807
theorem abi:Arg enc Try.prog w base 43 fun u=>∃ l,u=.av (l.flatMap qm) l.length .shared∧TU l:=Rt Try.underlying43 fun n v y h=>by
 obtain ⟨u,a,b,c,L,rfl,ao,fm⟩:=U7 (sz:=3) Try.underlying43 (by kernel_rfl) (by decide) (U' (n1:=1) (n2:=2) Try.underlying54 (by kernel_rfl) rfl rfl (by kernel_rfl) (by kernel_rfl) (U8 abL afe) U9) n v y h;obtain ⟨bp,rfl,aB⟩:=Sg (f:=qm) (R:=fun _=>True) fun us hu=>by
  obtain ⟨x,z,rfl,⟨fx,rfl,i,rfl,_⟩,⟨q,rfl,_,_⟩⟩:=fm us hu;exact ⟨(i,q),rfl,trivial⟩
 refine ⟨_,a,b,c,bp,?_,by have:=PG ao;simpa [TU] using this⟩;simp [List.flatMap_def]
end
end Go.Proofs.Ytkoioidpbbbaiaa.Ab


namespace Go.Proofs.Ytkoioidpbbbaiaa.Ab
open Go Go.ChangeShapes Go.WideShapes Go.ChangeAt Go.RowKit
set_option maxRecDepth 100000
section
variable {H:Type} {enc:TypeId×Value→H} {w:World} {base:Nat}
theorem abj:Arg enc Try.prog w base 2 fun u=>∃ x,u=hX x∧I6 x:=fun v d p ad a1=>by
 obtain ⟨u,a,b,x,rfl,h⟩:=UZ (P:=Try.prog) (enc:=enc) (w:=w) (base:=base) Try.underlying2 v d p ad a1;exact ⟨_,a,b,x,rfl,wf_i64 h⟩
end
end Go.Proofs.Ytkoioidpbbbaiaa.Ab


namespace Go.Proofs.Ytkoioidpbbbaiaa.Ab
open Go
set_option maxRecDepth 20000
set_option maxHeartbeats 4000000
noncomputable def aau:gB :=
 p4 [qg 4 0] (p4 [p3 5 1,p3 6 0,p2 7 [.Bv 6] .z7,qG 8 7 0,qG 9 8 0,qj 10 9,qZ 11 10,qw 12 11 2 .quo,qv 13 5 12 .sub,p3 4 13] .ret)
theorem aeY:qt Try.prog UL 68=some (aau,14,[.tmp 4]):=by kernel_rfl
def K6 (b:((qk×(Int×Int))×Unit)) (KR:Int):Option Int :=
 qx ((2:Int)≠0) <|
 some (w (KR-(w ((b.1.1.length:Int).tdiv (2:Int)))))
theorem LS {b:((qk×(Int×Int))×Unit)} {KR:Int} {v:Int} (h:K6 b KR=some v):qy 68 [(.bR [(.av (b.1.1.flatMap p') b.1.1.length .shared),(hX b.1.2.1),(hX b.1.2.2),Hx]),(hX KR)] (hX v):=by
 refine qQ eD aeY rfl rfl fun Q bo=>?_;have jG:qL [.tmp 4] Q (fun v=>(hX v)) v:=fun T H bD=>bo _ T H bD;unfold K6 at h;unfold aau;conv=>whnf
 refine qN h id fun gJ h=>?_;conv=>whnf
 exact p_ h jG rfl rfl

noncomputable def QJ:gB :=
 .loop (some (qc false [0,2,5,2,10])) (p4 [p2 9 [.m_ 8,.m_ 7] (.bin .lss)] (.seq (.cond (.m_ 9) .skip (.exit 0)) (.seq (.block 1 (p4 [p5 10 8,p3 5 10] (p4 [p5 11 1,p5 12 0,p5 13 5,rk 14 12 13 1,qj 15 14,qv 16 11 15 .eql] (.cond (.m_ 16) (p4 [p3 17 5,p3 4 17] .ret) .skip)))) (qR [qY 18 8 1,p3 8 18]))))
noncomputable def ZS:gB :=
 p4 [qg 4 0] (.seq (p4 [p5 6 0,qZ 7 6,qg 8 0] (.block 0 QJ)) (p4 [qg 4 (-1)] .ret))
theorem aek:qt Try.prog Rq 90=some (ZS,19,[.tmp 4]):=by kernel_rfl
def Lv (s:qa) (Iv:Int) (qf:Unit→Option Int):Nat→Int→Option Int
 | 0,_=>none
 | m+1,s1 =>
   if (decide (s1<(s.length:Int)))=true then
    qx (0≤s1∧s1<(s.length:Int)) <|
    if (decide (Iv=(ix s s1)))=true then
     some s1
    else
     Lv s Iv qf m (w (s1+(1:Int)))
   else
    qf ()
def Qk (s:qa) (Iv:Int):Option Int :=
 Lv s Iv (fun _ =>
   some (-1:Int)) ql (0:Int)
theorem ahN {s:qa} {Iv:Int} {qf:Unit→Option Int} {s1:Int} {v:Int} {Q:Hm}   (jG:qL [.tmp 4] Q (fun v=>(hX v)) v) (rm:∀ (qe:List I),qf ()=some v→rr 19 [] qe→Q (.exit 0) qe []) {T:List I} (bZ:eW (qc false [0,2,5,2,10]) T=qh 19 [(0,(qF s .shared)),(1,(hX Iv)),(7,(hX (s.length:Int))),(8,(hX s1))]) (h:Lv s Iv qf ql s1=some v) :
  dN Try.prog Rq 90 0 none QJ T [] Q:=by
 unfold QJ;refine wp_loop bZ ?_;refine .intro (fun m T H=>∃ (s1:Int),T=qh 19 [(0,(qF s .shared)),(1,(hX Iv)),(7,(hX (s.length:Int))),(8,(hX s1))]∧H=[]∧Lv s Iv qf m s1=some v) ql ⟨s1,rfl,rfl,h⟩ ?_;clear h bZ;rintro m T H ⟨s1,rfl,rfl,h⟩;cases m
 ·exact r3 h
 rename_i m;rw [Lv.eq_2] at h;conv=>whnf
 refine bs h (fun gJ h=>?_) fun gJ h=>?_
 ·rw [gJ];conv=>whnf
  refine qN h id fun gK h=>?_;rw [rh hX s s1 gK];conv=>whnf
  refine bs h (fun qu h=>?_) fun qu h=>?_
  ·rw [qu];(conv=>whnf);exact p_ h jG rfl rfl
  ·rw [qu];(conv=>whnf);exact ⟨m,sC m,(w (s1+(1:Int))),rfl,rfl,h⟩
 ·rw [gJ];conv=>whnf
  exact rm  _ h ⟨rfl,rfl⟩
theorem ahO {s:qa} {Iv:Int} {v:Int} (h:Qk s Iv=some v):qy 90 [(.av (s.map hX) s.length .shared),(hX Iv)] (hX v):=by
 refine qQ eD aek rfl rfl fun Q bo=>?_;have jG:qL [.tmp 4] Q (fun v=>(hX v)) v:=fun T H bD=>bo _ T H bD;unfold Qk at h;unfold ZS;obtain ⟨HN,qI⟩:∃ c,QJ=c:=⟨_,rfl⟩;rw [qI];conv=>whnf
 subst qI;refine ahN ?_ ?_ (by exact rfl) h
 ·exact fun T H bD=>jG T H bD
 ·intro  qe h qA;obtain ⟨rn,rfl⟩:=qA.ex;conv=>whnf
  exact p_ h jG rfl rfl

noncomputable def ZQ:gB :=
 p4 [p2 4 [.cv (.bool false)] .mR] (p4 [p3 5 0,p3 6 1,p2 7 [.cv (.func 90 [] []),.m_ 5,.m_ 6] (.call 3),qw 8 7 0 .geq,p3 4 8] .ret)
theorem aei:qt Try.prog UR 77=some (ZQ,9,[.tmp 4]):=by kernel_rfl
def OL (s:qa) (Iv:Int):Option Bool :=
 (Qk s Iv).bind fun aS =>
 some (decide ((0:Int)≤aS))
theorem ahK {s:qa} {Iv:Int} {v:Bool} (h:OL s Iv=some v):qy 77 [(.av (s.map hX) s.length .shared),(hX Iv)] (B v):=by
 refine qQ eD aei rfl rfl fun Q bo=>?_;have jG:qL [.tmp 4] Q (fun v=>(B v)) v:=fun T H bD=>bo _ T H bD;unfold OL at h;unfold ZQ;conv=>whnf
 obtain ⟨aS,gJ,h⟩:=p9 h;refine ⟨qb.pl,_,ahO gJ,?_⟩;conv=>whnf
 exact p_ h jG rfl rfl

noncomputable def TK:gB :=
 .ou true [p2 47 [.m_ 9] (.yP 1),qj 48 47,p5 49 0,p3 50 10,p2 51 [.cv (.func 68 [] []),.m_ 49,.m_ 50] (.call 3),qG 52 12 1,qj 53 52,qv 54 51 53 .mul,qv 55 48 54 .add,p2 56 [.m_ 9] (.yP 1),⟨none,[.jm 56,.jm 55],none,none,.st 1⟩]
noncomputable def TS:gB :=
 .seq (q4 [p2 37 [.m_ 9] (.yP 0),qj 38 37,p5 39 0,p5 40 10,p2 41 [.cv (.func 68 [] []),.m_ 39,.m_ 40] (.call 3),p2 42 [.m_ 12] (.yP 0),qj 43 42,qv 44 41 43 .mul,qv 45 38 44 .add,p2 46 [.m_ 9] (.yP 0),⟨none,[.jm 46,.jm 45],none,none,.st 1⟩]) TK
noncomputable def TR:gB :=
 .seq (p4 [p5 20 10,qw 21 20 2 .rem,p5 22 2,qv 23 21 22 .neq,p3 24 23,ch 25 [.m_ 3] 24 false .mR,ch 26 [.m_ 10] 24 false .mR,⟨some 27,[.cv (.func 77 [] []),.m_ 25,.m_ 26],some (24,false),none,.call 3⟩,p2 28 [.Bv 24,.cv (.bool true),.Bv 27] .pick] (.cond (.m_ 28) (.exit 1) .skip)) (p4 [p5 29 0,p2 30 [.Bv 29] .z7,qG 31 30 0,qG 32 31 0,qj 33 32,p3 34 11,rk 35 33 34 2,p2 36 [.Bv 35] (.zH (.str 2)),p2 12 [] (.alloc [.int .i64 0,.int .i64 0]),⟨none,[.m_ 12,.jm 36],none,none,.st 2⟩] TS)
noncomputable def O8:gB :=
 .ou false [qY 57 15 1,p3 15 57]
noncomputable def TQ:gB :=
 .seq (.block 1 (p4 [p5 17 15,p2 18 [.m_ 13,.m_ 15] (.kV 1),qj 19 18,p3 10 17,p3 11 19] TR)) O8
noncomputable def TP:gB :=
 .seq (.cond (.m_ 16) .skip (.exit 0)) TQ
noncomputable def Q3:gB :=
 .loop (some (qc false [0,1,1,2,4,2,3,3,43])) (p4 [p2 16 [.m_ 15,.m_ 14] (.bin .lss)] TP)
noncomputable def TN:gB :=
 .block 0 Q3
noncomputable def TM:gB :=
 p4 [p2 58 [.Bv 9] (.zH (.str 2)),⟨none,[.m_ 8,.jm 58],none,none,.st 2⟩] .ret
noncomputable def TL:gB :=
 .seq (p4 [p3 13 1,p2 14 [.m_ 13] .zM,qg 15 0] TN) TM
noncomputable def TJ:gB :=
 p4 [p2 9 [] (.alloc [.int .i64 0,.int .i64 0])] TL
noncomputable def aav:gB :=
 p4 [p2 8 [] (.alloc [.int .i64 0,.int .i64 0])] TJ
theorem aeZ:qt Try.prog Rn 62=some (aav,59,[.cell 8 (.str 2)]):=by kernel_rfl
def K7 (b:((qk×(Int×Int))×Unit)) (order:qa) (qC:Int) (without:qa) (qf:Int→Int→Option (Int×Int)):Nat→Int→Int→Int→Option (Int×Int)
 | 0,_,_,_=>none
 | m+1,s1,s2,dh =>
   if (decide (s1<(order.length:Int)))=true then
    qx (0≤s1∧s1<(order.length:Int)) <|
    qx ((2:Int)≠0) <|
    if (decide ((s1.tmod (2:Int))≠qC))=true then
     K7 b order qC without qf m (w (s1+(1:Int))) s2 dh
    else
     (OL without s1).bind fun aS =>
     if aS=true then
      K7 b order qC without qf m (w (s1+(1:Int))) s2 dh
     else
      qx (0≤(ix order s1)∧(ix order s1)<(b.1.1.length:Int)) <|
      (K6 (b.1,()) s1).bind fun bh =>
      (K6 (b.1,()) s1).bind fun eH =>
      K7 b order qC without qf m (w (s1+(1:Int))) (w (s2+(w (bh*(ix b.1.1 (ix order s1)).1)))) (w (dh+(w (eH*(ix b.1.1 (ix order s1)).2))))
   else
    qf s2 dh
def MB (b:((qk×(Int×Int))×Unit)) (order:qa) (qC:Int) (without:qa):Option (Int×Int) :=
 K7 b order qC without (fun yq oS =>
   some (yq,oS)) ql (0:Int) (0:Int) (0:Int)
theorem aiz {b:((qk×(Int×Int))×Unit)} {order:qa} {qC:Int} {without:qa} {qf:Int→Int→Option (Int×Int)} {s1:Int} {s2:Int} {dh:Int} {v:(Int×Int)} {Q:Hm}   (rm:∀ (yq oS:Int) (Lb:List ar) (qe:List I),qf yq oS=some v→rr 59 [(8,(.ptr 0 0)),(9,(.ptr 1 0))] qe→Q (.exit 0) qe (ar.cells [(hX (0:Int)),(hX (0:Int))]::ar.cells [(hX yq),(hX oS)]::Lb)) {T:List I} (bZ:eW (qc false [0,1,1,2,4,2,3,3,43]) T=qh 59 [(0,(.bR [(q6 b.1.1 .shared),(hX b.1.2.1),(hX b.1.2.2),Hx])),(2,(hX qC)),(3,(qF without .shared)),(8,(.ptr 0 0)),(9,(.ptr 1 0)),(13,(qF order .shared)),(14,(hX (order.length:Int))),(15,(hX s1))]) (h:K7 b order qC without qf ql s1 s2 dh=some v) :
  dN Try.prog Rn 62 0 none Q3 T [ar.cells [(hX (0:Int)),(hX (0:Int))],ar.cells [(hX s2),(hX dh)]] Q:=by
 unfold Q3;obtain ⟨ai4,VN⟩:∃ c,TP=c:=⟨_,rfl⟩;rw [VN];refine wp_loop bZ ?_;refine .intro (fun m T H=>∃ (s1 s2 dh:Int) (T3:List ar),T=qh 59 [(0,(.bR [(q6 b.1.1 .shared),(hX b.1.2.1),(hX b.1.2.2),Hx])),(2,(hX qC)),(3,(qF without .shared)),(8,(.ptr 0 0)),(9,(.ptr 1 0)),(13,(qF order .shared)),(14,(hX (order.length:Int))),(15,(hX s1))]∧H=(ar.cells [(hX (0:Int)),(hX (0:Int))]::ar.cells [(hX s2),(hX dh)]::T3)∧K7 b order qC without qf m s1 s2 dh=some v) ql ⟨s1,s2,dh,[],rfl,rfl,h⟩ ?_;clear h bZ;rintro m T H ⟨s1,s2,dh,T3,rfl,rfl,h⟩;cases m
 ·exact r3 h
 rename_i m;rw [K7.eq_2] at h;conv=>whnf
 subst VN;unfold TP;obtain ⟨ai5,VO⟩:∃ c,TQ=c:=⟨_,rfl⟩;rw [VO];conv=>whnf
 refine bs h (fun gJ h=>?_) fun gJ h=>?_
 ·rw [gJ];conv=>whnf
  subst VO;unfold TQ;obtain ⟨ai6,Ps⟩:∃ c,O8=c:=⟨_,rfl⟩;rw [Ps];obtain ⟨ai7,VP⟩:∃ c,TR=c:=⟨_,rfl⟩;rw [VP];conv=>whnf
  refine qN h id fun gK h=>?_;rw [rh hX order s1 gK];conv=>whnf
  subst VP;unfold TR;obtain ⟨ai8,VQ⟩:∃ c,TS=c:=⟨_,rfl⟩;rw [VQ];conv=>whnf
  refine qN h id fun qu h=>?_;conv=>whnf
  refine bs h (fun qH h=>?_) fun qH h=>?_
  ·rw [qH];(conv=>whnf);subst Ps;unfold O8;(conv=>whnf);exact ⟨m,sC m,(w (s1+(1:Int))),s2,dh,_,rfl,rfl,h⟩
  ·rw [qH];(conv=>whnf);obtain ⟨aS,qU,h⟩:=p9 h;refine ⟨qb.pl,_,ahK qU,?_⟩;(conv=>whnf);cases aS
   ·(conv=>whnf);replace h:=rK rfl h;refine qN h id fun ru h=>?_;rw [H3 p' 2 KV b.1.1 (ix order s1) ru];(conv=>whnf);refine Ez (x:=ar.cells [(hX (0:Int)),(hX (0:Int))]) (by first | exact q5.h | rfl | (simp [ss,I.settle];done)) ?_
    (conv=>whnf);rw [H9];subst VQ;unfold TS;obtain ⟨ai1,VK⟩:∃ c,TK=c:=⟨_,rfl⟩;rw [VK];(conv=>whnf);obtain ⟨bh,qS,h⟩:=p9 h;refine ⟨qb.pl,_,LS qS,rD,?_⟩;(conv=>whnf);refine Ez (x:=ar.cells [(hX (ix b.1.1 (ix order s1)).1),(hX (ix b.1.1 (ix order s1)).2)]) (by first | exact q5.h | rfl | (simp [ss,I.settle];done)) ?_
    (conv=>whnf);subst VK;unfold TK;(conv=>whnf);obtain ⟨eH,rH,h⟩:=p9 h;refine ⟨qb.pl,_,LS rH,rD,?_⟩;(conv=>whnf);refine Ez (x:=ar.cells [(hX (ix b.1.1 (ix order s1)).1),(hX (ix b.1.1 (ix order s1)).2)]) (by first | exact q5.h | rfl | (simp [ss,I.settle];done)) ?_
    (conv=>whnf);subst Ps;unfold O8;(conv=>whnf);exact ⟨m,sC m,(w (s1+(1:Int))),(w (s2+(w (bh*(ix b.1.1 (ix order s1)).1)))),(w (dh+(w (eH*(ix b.1.1 (ix order s1)).2)))),_,rfl,rfl,h⟩
   ·(conv=>whnf);replace h:=rJ rfl h;subst Ps;unfold O8;(conv=>whnf);exact ⟨m,sC m,(w (s1+(1:Int))),s2,dh,_,rfl,rfl,h⟩
 ·rw [gJ];conv=>whnf
  exact rm _ _ _ _ h ⟨rfl,rfl⟩
theorem QH {b:((qk×(Int×Int))×Unit)} {order:qa} {qC:Int} {without:qa} {v:(Int×Int)} (h:MB b order qC without=some v):qy 62 [(.bR [(.av (b.1.1.flatMap p') b.1.1.length .shared),(hX b.1.2.1),(hX b.1.2.2),Hx]),(.av (order.map hX) order.length .shared),(hX qC),(.av (without.map hX) without.length .shared)] (.agg [(hX v.1),(hX v.2)]):=by
 refine qQ eD aeZ rfl (Ih (p6 rfl (p6 rfl rfl))) fun Q bo=>?_;have jG:qL [.cell 8 (.str 2)] Q (fun v=>(.agg [(hX v.1),(hX v.2)])) v:=fun T H bD=>bo _ T H bD;unfold MB at h;unfold aav;obtain ⟨HN,qI⟩:∃ c,TJ=c:=⟨_,rfl⟩;rw [qI];conv=>whnf
 subst qI;unfold TJ;obtain ⟨Le,rU⟩:∃ c,TL=c:=⟨_,rfl⟩;rw [rU];conv=>whnf
 subst rU;unfold TL;obtain ⟨U5,Li⟩:∃ c,TM=c:=⟨_,rfl⟩;rw [Li];obtain ⟨ai3,VM⟩:∃ c,TN=c:=⟨_,rfl⟩;rw [VM];conv=>whnf
 subst VM;unfold TN;obtain ⟨ai2,VL⟩:∃ c,Q3=c:=⟨_,rfl⟩;rw [VL];conv=>whnf
 subst VL;refine aiz ?_ (by exact rfl) h;intro yq oS Lb qe h qA;obtain ⟨rn,rfl⟩:=qA.ex;conv=>whnf
 subst Li;unfold TM;conv=>whnf
 exact p_ h jG rfl rfl
end Go.Proofs.Ytkoioidpbbbaiaa.Ab


namespace Go.Proofs.Ytkoioidpbbbaiaa.Ab
open Go
noncomputable def af_:gB :=
 .ou false [p3 18 8,p2 19 [.m_ 9] (.yP 0),qj 20 19,qG 21 9 1,qj 22 21,p5 23 2,qv 24 22 23 .mul,qv 25 20 24 .add,p2 26 [.m_ 7,.Bv 18] (.zx 2 1),⟨none,[.jm 26,.jm 25],none,none,.st 1⟩]
noncomputable def aga:gB :=
 p4 [p5 14 0,p5 15 1,p5 16 8,p2 17 [.cv (.func 62 [] []),.m_ 14,.m_ 15,.m_ 16,.cv (.av [] 0 .full)] (.call 3),p2 9 [] (.alloc [.int .i64 0,.int .i64 0]),⟨none,[.m_ 9,.jm 17],none,none,.st 2⟩] af_
noncomputable def agb:gB :=
 .block 1 (p4 [p5 13 11,p3 8 13] aga)
noncomputable def agc:gB :=
 .seq (p4 [qg 11 0] (.block 0 (.loop (some (qc false [0,3,3,2,3,1,17])) (p4 [p2 12 [.m_ 11,.cv (.int .i64 2)] (.bin .lss)] (.seq (.cond (.m_ 12) .skip (.exit 0)) (.seq agb (qR [qY 27 11 1,p3 11 27]))))))) (p4 [p2 28 [.Bv 7] (.zH (.arr 2)),⟨none,[.m_ 6,.jm 28],none,none,.st 2⟩] .ret)
noncomputable def X5:gB :=
 p4 [p2 6 [] (.alloc [.int .i64 0, .int .i64 0])] (p4 [p2 7 [] (.alloc [.int .i64 0, .int .i64 0])] (p4 [p2 10 [.m_ 7] (.other (Oper.mk (some 10) (Op.slice 66 (Operand.tmp 7) none none none) 98 "press.go:44" (Array.mk []) none) 0), ⟨none, [.jm 10], none, none, .other (Oper.mk none (Op.call (Call.mk (Callee.builtin Builtin.clear) (Array.mk [Operand.tmp 10]) (Array.mk [98]))) 0 "press.go:44" (Array.mk [Edge.mk 0 Ground.data]) none) 0⟩] agc))
theorem ad1:qt Go.Proofs.Try.prog Us 38=some (X5,29,[.cell 6 (.arr 2)]):=by kernel_rfl
noncomputable def afV:gB :=
 .ou false [p3 35 5,p5 36 9,p3 37 9,p2 38 [.Bv 37] (.un .neg),p2 39 [.jm 35,.jm 36,.jm 38] .max,p3 5 39]
noncomputable def afW:gB :=
 .block 3 (p4 [p2 34 [.m_ 31, .m_ 32] (.other (Oper.mk (some 34) (Op.index 66 (Operand.tmp 31) (Operand.tmp 32)) 2 "press.go:56" (Array.mk []) none) 0), p3 9 34] afV)
noncomputable def afX:gB :=
 p4 [p5 28 0,p5 29 1,p3 30 7,p2 31 [.cv (.func 38 [] []),.m_ 28,.m_ 29,.m_ 30] (.call 3),qg 32 0] (.block 2 (.loop (some (qc false [0,2,3,1,16,3,6,2,10])) (p4 [p2 33 [.m_ 32,.cv (.int .i64 2)] (.bin .lss)] (.seq (.cond (.m_ 33) .skip (.exit 2)) (.seq afW (qR [qY 40 32 1,p3 32 40]))))))
noncomputable def afY:gB :=
 .block 1 (p4 [p2 26 [.m_ 22,.m_ 24] (.kV 1),qj 27 26,p3 7 27] afX)
noncomputable def afZ:gB :=
 .seq (.seq (q4 [p5 10 0,p2 11 [.Bv 10] .z7,qG 12 11 0,qG 13 12 1,qG 14 13 0,qj 15 14,p5 16 0,p2 17 [.Bv 16] .z7,qG 18 17 0,qG 19 18 1,qG 20 19 1,qj 21 20,p2 22 [.Bv 15,.Bv 21] (.yE 2 1 [.int .i64 0] [0,1]),p2 23 [.m_ 22] .zM,qg 24 0]) (.block 0 (.loop (some (qc false [0,2,3,1,16,3,18])) (p4 [p2 25 [.m_ 24,.m_ 23] (.bin .lss)] (.seq (.cond (.m_ 25) .skip (.exit 0)) (.seq afY (qR [qY 41 24 1,p3 24 41]))))))) (p4 [p3 42 5,p3 4 42] .ret)
noncomputable def XR:gB :=
 p4 [qg 4 0] (p4 [qg 5 0] afZ)
theorem adV:qt Go.Proofs.Try.prog Ut 41=some (XR,43,[.tmp 4]):=by kernel_rfl
end Go.Proofs.Ytkoioidpbbbaiaa.Ab


namespace Go.Proofs.Ytkoioidpbbbaiaa.Ab
open Go
theorem ack {H:List ar} {id d:Nat} {l r:List I} (h:H[id]?=some (.cells l)) (hm:dZ (bL H 0 H.length 0 d) (l.map I.view)=some r):bL H 0 H.length 0 (d+1) (.ptr id 0)=some (.bR r):=by
 have ab:=(sd.1 h).1;simp only [bL,Nat.not_lt_zero,if_false,h,tt,hm,sg];rw [if_neg (by omega)]
theorem VB {H:List ar} {lo id0 n d id:Nat} (h:¬ id<lo) (aX:id≠id0):bL H lo id0 n (d+1) (.map id)=some .a0:=by
 simp only [bL,if_neg h,if_neg aX]
end Go.Proofs.Ytkoioidpbbbaiaa.Ab


namespace Go.Proofs.Ytkoioidpbbbaiaa.Ab
open Go
set_option maxRecDepth 20000
set_option maxHeartbeats 4000000
def Mx (b:((List (Int×Int))×(Int×Int))×Unit) (order:List Int) (q3:Int):Option (Int×Int) :=
 (MB b order 0 []).bind fun s=>(MB b order 1 []).bind fun t=>some (w (s.1+w (s.2*q3)),w (t.1+w (t.2*q3)))
abbrev lj (b:((List (Int×Int))×(Int×Int))×Unit):I:=.bR [.av (b.1.1.flatMap p') b.1.1.length .shared,hX b.1.2.1,hX b.1.2.2,Hx]
theorem TF {b:((List (Int×Int))×(Int×Int))×Unit} {order:List Int} {q3:Int} {v:Int×Int} (h:Mx b order q3=some v):qy 38 [lj b,.av (order.map hX) order.length .shared,hX q3] (.agg [hX v.1,hX v.2]):=by
 unfold Mx at h;obtain ⟨s,ah,h⟩:=p9 h;obtain ⟨t,ax,h⟩:=p9 h;obtain rfl:=Option.some.inj h;refine qQ eD ad1 rfl (Ih (p6 rfl (p6 rfl rfl))) fun Q bo=>?_;unfold X5;conv=>whnf
 refine ⟨_,_,fun C=>rfl,?_⟩;conv=>whnf
 refine ⟨_,_,fun C=>rfl,?_⟩;conv=>whnf
 refine .intro (fun m T H=>(m=2∧T=qh 29 [(0,lj b),(1,.av (order.map hX) order.length .shared),(2,hX q3),(6,.ptr 0 0),(7,.ptr 1 0),(11,hX 0)]∧H=[.cells [hX 0,hX 0],.cells [hX 0,hX 0]]) ∨
  (m=1∧T=qh 29 [(0,lj b),(1,.av (order.map hX) order.length .shared),(2,hX q3),(6,.ptr 0 0),(7,.ptr 1 0),(11,hX 1)]∧H=[.cells [hX 0,hX 0],.cells [hX (w (s.1+w (s.2*q3))),hX 0],.cells [hX s.1,hX s.2]]) ∨
  (m=0∧T=qh 29 [(0,lj b),(1,.av (order.map hX) order.length .shared),(2,hX q3),(6,.ptr 0 0),(7,.ptr 1 0),(11,hX 2)]∧H=[.cells [hX 0,hX 0],.cells [hX (w (s.1+w (s.2*q3))),hX (w (t.1+w (t.2*q3)))],.cells [hX s.1,hX s.2],.cells [hX t.1,hX t.2]])) 2 (.inl ⟨rfl,rfl,rfl⟩) ?_
 rintro m T H (⟨rfl,rfl,rfl⟩ | ⟨rfl,rfl,rfl⟩ | ⟨rfl,rfl,rfl⟩)
 ·conv=>whnf
  refine ⟨qb.pl,_,QH ah,?_⟩;conv=>whnf
  refine ⟨by decide,?_⟩;conv=>whnf
  exact ⟨1,by decide,.inr (.inl ⟨rfl,rfl,rfl⟩)⟩
 ·conv=>whnf
  refine ⟨qb.pl,_,QH ax,?_⟩;conv=>whnf
  refine ⟨by decide,?_⟩;conv=>whnf
  exact ⟨0,by decide,.inr (.inr ⟨rfl,rfl,rfl⟩)⟩
 ·conv=>whnf
  refine ⟨se 2,?_⟩;conv=>whnf
  refine bo _ _ _ ?_;exact ⟨.inr rfl,[.agg [hX (w (s.1+w (s.2*q3))),hX (w (t.1+w (t.2*q3)))]],rfl,_,yZ (Ih (p6 rfl (p6 rfl rfl))),rfl⟩
def K5 (b:((List (Int×Int))×(Int×Int))×Unit) (order:List Int):Option Int :=
 (Mx b order b.1.2.1).bind fun s=>(Mx b order b.1.2.2).bind fun t =>
  some (max (max (max (max (max (max (max (max 0 s.1) (w (-s.1))) s.2) (w (-s.2))) t.1) (w (-t.1))) t.2) (w (-t.2)))
theorem OZ {b:((List (Int×Int))×(Int×Int))×Unit} {order:List Int} {v:Int} (h:K5 b order=some v):qy 41 [lj b,.av (order.map hX) order.length .shared] (hX v):=by
 unfold K5 at h;obtain ⟨s,ah,h⟩:=p9 h;obtain ⟨t,ax,h⟩:=p9 h;obtain rfl:=Option.some.inj h;refine qQ eD adV rfl rfl fun Q bo=>?_;unfold XR;conv=>whnf
 refine .intro (fun m T H=>(m=2∧T=qh 43 [(0,lj b),(1,.av (order.map hX) order.length .shared),(5,hX 0),(22,.av [hX b.1.2.1,hX b.1.2.2] 2 (.own 1)),(23,hX 2),(24,hX 0)]∧H=[])∨(m=1∧T=qh 43 [(0,lj b),(1,.av (order.map hX) order.length .shared),(5,hX (max (max (max (max 0 s.1) (w (-s.1))) s.2) (w (-s.2)))),(22,.av [hX b.1.2.1,hX b.1.2.2] 2 (.own 1)),(23,hX 2),(24,hX 1)]∧H=[])∨(m=0∧T=qh 43 [(0,lj b),(1,.av (order.map hX) order.length .shared),(5,hX (max (max (max (max (max (max (max (max 0 s.1) (w (-s.1))) s.2) (w (-s.2))) t.1) (w (-t.1))) t.2) (w (-t.2)))),(22,.av [hX b.1.2.1,hX b.1.2.2] 2 (.own 1)),(23,hX 2),(24,hX 2)]∧H=[])) 2 (.inl ⟨rfl,rfl,rfl⟩) ?_;rintro m T H (⟨rfl,rfl,rfl⟩ | ⟨rfl,rfl,rfl⟩ | ⟨rfl,rfl,rfl⟩)
 ·conv=>whnf
  refine ⟨by decide,?_⟩;conv=>whnf
  refine ⟨qb.pl,_,TF ah,?_⟩;conv=>whnf
  refine .intro (fun m T H=>(m=2∧T=qh 43 [(0,lj b),(1,.av (order.map hX) order.length .shared),(5,hX 0),(22,.av [hX b.1.2.1,hX b.1.2.2] 2 (.own 1)),(23,hX 2),(24,hX 0),(31,.agg [hX s.1,hX s.2]),(32,hX 0)]∧H=[])∨(m=1∧T=qh 43 [(0,lj b),(1,.av (order.map hX) order.length .shared),(5,hX (max (max 0 s.1) (w (-s.1)))),(22,.av [hX b.1.2.1,hX b.1.2.2] 2 (.own 1)),(23,hX 2),(24,hX 0),(31,.agg [hX s.1,hX s.2]),(32,hX 1)]∧H=[])∨(m=0∧T=qh 43 [(0,lj b),(1,.av (order.map hX) order.length .shared),(5,hX (max (max (max (max 0 s.1) (w (-s.1))) s.2) (w (-s.2)))),(22,.av [hX b.1.2.1,hX b.1.2.2] 2 (.own 1)),(23,hX 2),(24,hX 0),(31,.agg [hX s.1,hX s.2]),(32,hX 2)]∧H=[])) 2 (.inl ⟨rfl,rfl,rfl⟩) ?_;rintro m T H (⟨rfl,rfl,rfl⟩ | ⟨rfl,rfl,rfl⟩ | ⟨rfl,rfl,rfl⟩)
  ·(conv=>whnf);refine ⟨_,_,fun C=>rfl,?_⟩;(conv=>whnf);exact ⟨1,by decide,.inr (.inl ⟨rfl,rfl,rfl⟩)⟩
  ·(conv=>whnf);refine ⟨_,_,fun C=>rfl,?_⟩;(conv=>whnf);exact ⟨0,by decide,.inr (.inr ⟨rfl,rfl,rfl⟩)⟩
  ·(conv=>whnf);exact ⟨1,by decide,.inr (.inl ⟨rfl,rfl,rfl⟩)⟩
 ·conv=>whnf
  refine ⟨by decide,?_⟩;conv=>whnf
  refine ⟨qb.pl,_,TF ax,?_⟩;conv=>whnf
  refine .intro (fun m T H=>(m=2∧T=qh 43 [(0,lj b),(1,.av (order.map hX) order.length .shared),(5,hX (max (max (max (max 0 s.1) (w (-s.1))) s.2) (w (-s.2)))),(22,.av [hX b.1.2.1,hX b.1.2.2] 2 (.own 1)),(23,hX 2),(24,hX 1),(31,.agg [hX t.1,hX t.2]),(32,hX 0)]∧H=[])∨(m=1∧T=qh 43 [(0,lj b),(1,.av (order.map hX) order.length .shared),(5,hX (max (max (max (max (max (max 0 s.1) (w (-s.1))) s.2) (w (-s.2))) t.1) (w (-t.1)))),(22,.av [hX b.1.2.1,hX b.1.2.2] 2 (.own 1)),(23,hX 2),(24,hX 1),(31,.agg [hX t.1,hX t.2]),(32,hX 1)]∧H=[])∨(m=0∧T=qh 43 [(0,lj b),(1,.av (order.map hX) order.length .shared),(5,hX (max (max (max (max (max (max (max (max 0 s.1) (w (-s.1))) s.2) (w (-s.2))) t.1) (w (-t.1))) t.2) (w (-t.2)))),(22,.av [hX b.1.2.1,hX b.1.2.2] 2 (.own 1)),(23,hX 2),(24,hX 1),(31,.agg [hX t.1,hX t.2]),(32,hX 2)]∧H=[])) 2 (.inl ⟨rfl,rfl,rfl⟩) ?_;rintro m T H (⟨rfl,rfl,rfl⟩ | ⟨rfl,rfl,rfl⟩ | ⟨rfl,rfl,rfl⟩)
  ·(conv=>whnf);refine ⟨_,_,fun C=>rfl,?_⟩;(conv=>whnf);exact ⟨1,by decide,.inr (.inl ⟨rfl,rfl,rfl⟩)⟩
  ·(conv=>whnf);refine ⟨_,_,fun C=>rfl,?_⟩;(conv=>whnf);exact ⟨0,by decide,.inr (.inr ⟨rfl,rfl,rfl⟩)⟩
  ·(conv=>whnf);exact ⟨0,by decide,.inr (.inr ⟨rfl,rfl,rfl⟩)⟩
 ·conv=>whnf
  exact bo _ _ _ ⟨.inr rfl,_,rfl,_,yZ rfl,rfl⟩

noncomputable def aaw:gB :=
 p4 [qg 4 0] (p4 [p3 5 0,p3 6 1,qw 7 6 2 .quo,qv 8 5 7 .sub,p3 4 8] .ret)
theorem ae0:qt Try.prog UJ 63=some (aaw,9,[.tmp 4]):=by kernel_rfl
def NH (KR L_:Int):Option Int :=
 qx ((2:Int)≠0) <|
 some (w (KR-(w (L_.tdiv (2:Int)))))
theorem aiC {KR:Int} {L_:Int} {v:Int} (h:NH KR L_=some v):qy 63 [(hX KR),(hX L_)] (hX v):=by
 refine qQ eD ae0 rfl rfl fun Q bo=>?_;have jG:qL [.tmp 4] Q (fun v=>(hX v)) v:=fun T H bD=>bo _ T H bD;unfold NH at h;unfold aaw;conv=>whnf
 refine qN h id fun gJ h=>?_;conv=>whnf
 exact p_ h jG rfl rfl

noncomputable def Q0:gB :=
 .loop (some (qc false [1,4,4,2,34])) (.seq (p4 [p5 12 10,p5 13 1,qZ 14 13,qv 15 12 14 .lss] (.cond (.m_ 15) .skip (.exit 0))) (.seq (.block 1 (p4 [p5 18 10,qw 19 18 2 .rem,p5 20 3,qv 21 19 20 .eql] (.cond (.m_ 21) (.seq (q4 [p2 22 [.m_ 4] (.yP 0),qj 23 22,p5 24 1,p5 25 10,rk 26 24 25 1,qj 27 26,rk 28 23 27 2,p2 29 [.Bv 28] (.zH (.str 2)),p2 11 [] (.alloc [.int .i64 0,.int .i64 0]),⟨none,[.m_ 11,.jm 29],none,none,.st 2⟩]) (q4 [p3 30 9,p5 31 10,p5 32 1,qZ 33 32,p2 34 [.cv (.func 63 [] []),.m_ 31,.m_ 33] (.call 3),p2 35 [.m_ 11] (.yP 0),qj 36 35,p2 37 [.m_ 11] (.yP 1),qj 38 37,p5 39 2,qv 40 38 39 .mul,qv 41 36 40 .add,qv 42 34 41 .mul,qv 43 30 42 .add,p3 9 43])) .skip))) (qR [p3 16 10,qY 17 16 1,p3 10 17])))
noncomputable def aao:gB :=
 p4 [p2 4 [.jm 0] .box,qg 8 0] (p4 [qg 9 0] (.seq (p4 [qg 10 0] (.block 0 Q0)) (p4 [p3 44 9,p3 8 44] .ret)))
theorem aeS:qt Try.prog Rh 40=some (aao,45,[.tmp 8]):=by kernel_rfl
def LQ (p:(qk×(Int×Int))) (order:qa) (q3 qC:Int) (qf:Int→Option Int):Nat→Int→Int→Option Int
 | 0,_,_=>none
 | m+1,s1,s2 =>
   if (decide (s2<(order.length:Int)))=true then
    qx ((2:Int)≠0) <|
    if (decide ((s2.tmod (2:Int))=qC))=true then
     qx (0≤s2∧s2<(order.length:Int)) <|
     qx (0≤(ix order s2)∧(ix order s2)<(p.1.length:Int)) <|
     (NH s2 (order.length:Int)).bind fun aS =>
     LQ p order q3 qC qf m (w (s1+(w (aS*(w ((ix p.1 (ix order s2)).1+(w ((ix p.1 (ix order s2)).2*q3)))))))) (w (s2+(1:Int)))
    else
     LQ p order q3 qC qf m s1 (w (s2+(1:Int)))
   else
    qf s1
def Kd (p:(qk×(Int×Int))) (order:qa) (q3 qC:Int):Option Int :=
 LQ p order q3 qC (fun yq =>
   some yq) ql (0:Int) (0:Int)
theorem aiv {p:(qk×(Int×Int))} {order:qa} {q3:Int} {qC:Int} {qf:Int→Option Int} {s1:Int} {s2:Int} {v:Int} {Q:Hm}   (rm:∀ (yq:Int) (bw:ar) (Lb:List ar) (qe:List I),qf yq=some v→rr 45 [(9,(hX yq))] qe→Q (.exit 0) qe (bw::Lb)) {T:List I} (bZ:eW (qc false [1,4,4,2,34]) T=qh 45 [(1,(qF order .shared)),(2,(hX q3)),(3,(hX qC)),(4,(.ptr 0 0)),(9,(hX s1)),(10,(hX s2))]) (h:LQ p order q3 qC qf ql s1 s2=some v) :
  dN Try.prog Rh 40 0 none Q0 T [ar.cells [(q6 p.1 .shared),(hX p.2.1),(hX p.2.2)]] Q:=by
 unfold Q0;refine wp_loop bZ ?_;refine .intro (fun m T H=>∃ (s1 s2:Int) (T2:List ar),T=qh 45 [(1,(qF order .shared)),(2,(hX q3)),(3,(hX qC)),(4,(.ptr 0 0)),(9,(hX s1)),(10,(hX s2))]∧H=(ar.cells [(q6 p.1 .shared),(hX p.2.1),(hX p.2.2)]::T2)∧LQ p order q3 qC qf m s1 s2=some v) ql ⟨s1,s2,[],rfl,rfl,h⟩ ?_;clear h bZ;rintro m T H ⟨s1,s2,T2,rfl,rfl,h⟩;cases m
 ·exact r3 h
 rename_i m;rw [LQ.eq_2] at h;conv=>whnf
 refine bs h (fun gJ h=>?_) fun gJ h=>?_
 ·rw [gJ];conv=>whnf
  refine qN h id fun gK h=>?_;conv=>whnf
  refine bs h (fun qu h=>?_) fun qu h=>?_
  ·rw [qu];(conv=>whnf);refine qN h id fun qH h=>?_;rw [rh hX order s2 qH];(conv=>whnf);refine qN h id fun qU h=>?_;rw [H3 p' 2 KV p.1 (ix order s2) qU];(conv=>whnf);refine Ez (x:=ar.cells [(hX (0:Int)),(hX (0:Int))]) (by first | exact q5.h | rfl | (simp [ss,I.settle];done)) ?_
   (conv=>whnf);rw [H9];obtain ⟨aS,ru,h⟩:=p9 h;refine ⟨(p6 rfl (p6 rfl rfl)),_,aiC ru,rD,?_⟩;(conv=>whnf);refine Ez (x:=ar.cells [(hX (ix p.1 (ix order s2)).1),(hX (ix p.1 (ix order s2)).2)]) (by first | exact q5.h | rfl | (simp [ss,I.settle];done)) ?_
   (conv=>whnf);refine Ez (x:=ar.cells [(hX (ix p.1 (ix order s2)).1),(hX (ix p.1 (ix order s2)).2)]) (by first | exact q5.h | rfl | (simp [ss,I.settle];done)) ?_
   (conv=>whnf);exact ⟨m,sC m,(w (s1+(w (aS*(w ((ix p.1 (ix order s2)).1+(w ((ix p.1 (ix order s2)).2*q3)))))))),(w (s2+(1:Int))),_,rfl,rfl,h⟩
  ·rw [qu];(conv=>whnf);exact ⟨m,sC m,s1,(w (s2+(1:Int))),_,rfl,rfl,h⟩
 ·rw [gJ];conv=>whnf
  exact rm _ _ _ _ h ⟨rfl,rfl⟩
theorem QA {p:(qk×(Int×Int))} {order:qa} {q3:Int} {qC:Int} {v:Int} (h:Kd p order q3 qC=some v):qy 40 [(.agg [(.av (p.1.flatMap p') p.1.length .shared),(hX p.2.1),(hX p.2.2)]),(.av (order.map hX) order.length .shared),(hX q3),(hX qC)] (hX v):=by
 refine qQ eD aeS rfl rfl fun Q bo=>?_;have jG:qL [.tmp 8] Q (fun v=>(hX v)) v:=fun T H bD=>bo _ T H bD;unfold Kd at h;unfold aao;obtain ⟨HN,qI⟩:∃ c,Q0=c:=⟨_,rfl⟩;rw [qI];conv=>whnf
 subst qI;refine aiv ?_ (by exact rfl) h;intro yq bw Lb qe h qA;obtain ⟨rn,rfl⟩:=qA.ex;conv=>whnf
 exact p_ h jG rfl rfl
end Go.Proofs.Ytkoioidpbbbaiaa.Ab


namespace Go.Proofs.Ytkoioidpbbbaiaa.Ab
open Go
set_option maxRecDepth 20000
set_option maxHeartbeats 1000000
abbrev qE:=Int×Int
def qO:Nat→(Nat→Int)→Int
 | 0,_=>0
 | n+1,g=>qO n g+g n
theorem K0 {n:Nat} {g h:Nat→Int} (e:∀ i,i<n→g i=h i):qO n g=qO n h:=by
 induction n with
 | zero=>rfl
 | succ n a8=>simp only [qO];rw [a8 fun i hi=>e i (by omega),e n (by omega)]
theorem OG {n:Nat} {g:Nat→Int} {B:Int} (e:∀ i,i<n → -B≤g i∧g i≤B):-(n*B)≤qO n g∧qO n g≤n*B:=by
 induction n with
 | zero=>simp [qO]
 | succ n a8 =>
   obtain ⟨ab,ae⟩:=a8 fun i hi=>e i (by omega);obtain ⟨aF,ba⟩:=e n (by omega);simp only [qO]
   have:((n+1:Nat):Int)*B=n*B+B:=by rw [Int.natCast_add,Int.add_mul];simp
   omega
theorem ag9 (n:Nat) (g h:Nat→Int):qO n (fun i=>g i+h i)=qO n g+qO n h:=by
 induction n with
 | zero=>rfl
 | succ n a8=>simp only [qO,a8];omega
theorem OH (n:Nat) (g:Nat→Int) (c:Int):qO n (fun i=>c*g i)=c*qO n g:=by
 induction n with
 | zero=>simp [qO]
 | succ n a8=>simp only [qO,a8,Int.mul_add]
theorem Is {a b A B:Int} (h:-A≤a∧a≤A) (k:-B≤b∧b≤B):-(A*B)≤a*b∧a*b≤A*B:=by
 have ab:a.natAbs*b.natAbs≤A.natAbs*B.natAbs:=Nat.mul_le_mul (by omega) (by omega);have ae:(a*b).natAbs≤A.natAbs*B.natAbs:=by rw [Int.natAbs_mul];exact ab
 have aF:((A.natAbs*B.natAbs:Nat):Int)=A*B:=by
  rw [Int.natCast_mul,Int.natAbs_of_nonneg (by omega),Int.natAbs_of_nonneg (by omega)]
 omega
def qp (S:List qE) (o:List Int) (i:Nat):qE:=ix S (ix o (i:Int))
def qz (n i:Nat):Int:=(i:Int)-((n / 2:Nat):Int)
def qP (S:List qE) (o:List Int) (a:Nat) (W:List Int) (f:qE→Int):Int:=qO o.length fun i=>if i % 2=a∧(i:Int) ∉ W then qz o.length i*f (qp S o i) else 0
def ri (S:List qE) (o:List Int) (a:Nat) (f:qE→Int):Int:=qO o.length fun i=>if i % 2=a then qz o.length i*f (qp S o i) else 0
theorem Ob (S:List qE) (o:List Int) (a:Nat) (f:qE→Int):qP S o a [] f=ri S o a f:=K0 fun i _=>by simp
def Kw (S:List qE) (o:List Int):Prop:=∀ i:Nat,i<o.length→0≤ix o (i:Int)∧ix o (i:Int)<(S.length:Int)
def qV (s:qE):Prop:=0≤s.1∧s.1≤100∧-10≤s.2∧s.2≤10
instance (s:qE):Decidable (qV s):=by unfold qV;exact inferInstance
theorem I1 {S:List qE} {o:List Int} (cl:∀ s∈S,qV s) (jG:Kw S o) {i:Nat} (hi:i<o.length):qV (qp S o i):=cl _ (Kn (jG i hi))
def q_ (d:Int) (s:qE):Int:=s.1+s.2*d
theorem MH {d:Int} {s:qE} (ah:qV s) (a1:0≤d∧d≤50):-600≤q_ d s∧q_ d s≤600:=by
 have:=Is (a:=s.2) (b:=d) (A:=10) (B:=50) ⟨ah.2.2.1,ah.2.2.2⟩ ⟨by omega,a1.2⟩;have ab:=ah.1;have ae:=ah.2.1;unfold q_;omega
theorem M1 {n i:Nat} (hi:i<n) (aI:n≤10):-10≤qz n i∧qz n i≤10:=by unfold qz;omega
theorem Qd {n i:Nat} {v B:Int} {q:Prop} [Decidable q] (hi:i<n) (aI:n≤10) (I9:0≤B) (h:-B≤v∧v≤B):-(10*B)≤(if q then qz n i*v else 0)∧(if q then qz n i*v else 0)≤10*B:=by
 by_cases ab:q
 ·rw [if_pos ab];exact Is (M1 hi aI) h
 ·rw [if_neg ab];omega
theorem Sj {S:List qE} {o:List Int} {a:Nat} {W:List Int} {f:qE→Int} {B:Int} (aq:o.length≤10) (I9:0≤B) (h:∀ i,i<o.length → -B≤f (qp S o i)∧f (qp S o i)≤B):-(100*B)≤qP S o a W f∧qP S o a W f≤100*B:=by
 have:=OG (n:=o.length) (g:=fun i=>if i % 2=a∧(i:Int) ∉ W then qz o.length i*f (qp S o i) else 0) (B:=10*B) fun i hi=>Qd hi aq I9 (h i hi);have ae:=Int.mul_le_mul_of_nonneg_right (show (o.length:Int)≤10 by omega) (show 0≤10*B by omega);unfold qP;omega
theorem ae7 {S:List qE} {o:List Int} {a:Nat} {f:qE→Int} {B:Int} (aq:o.length≤10) (I9:0≤B) (h:∀ i,i<o.length → -B≤f (qp S o i)∧f (qp S o i)≤B):-(100*B)≤ri S o a f∧ri S o a f≤100*B:=by
 rw [←Ob];exact Sj aq I9 h
theorem ZO {n i:Nat} (hi:i<n) (aI:n≤10):NH (i:Int) (n:Int)=some (qz n i):=by
 unfold NH;rw [qD (by decide)];have e:(n:Int).tdiv 2=((n / 2:Nat):Int):=by rw [Int.tdiv_eq_ediv_of_nonneg (by omega)];omega
 rw [e,qK (n:=((n / 2:Nat):Int)) (by omega),qK (by omega)];rfl
theorem Nj (i:Nat):(i:Int).tmod 2=((i % 2:Nat):Int):=by rw [Int.tmod_eq_emod_of_nonneg (by omega)];omega
theorem Wx {p:(List qE)×(Int×Int)} {o:List Int} {d:Int} {a:Nat} {kl:Int→Option Int} (cl:∀ s∈p.1,qV s) (jG:Kw p.1 o) (aq:o.length≤10) (a1:0≤d∧d≤50) :
  ∀ (m i:Nat),i≤o.length→o.length-i<m→LQ p o d (a:Int) kl m (qO i fun i=>if i % 2=a then qz o.length i*q_ d (qp p.1 o i) else 0) (i:Int)=kl (ri p.1 o a (q_ d))
 | 0,_,_,h=>absurd h (by omega)
 | m+1,i,hi,hm=>by
   rw [LQ];by_cases aR:i<o.length
   ·rw [if_pos (decide_eq_true (by omega)),qD (by decide),Nj,Iw i (by omega)];have a8:=Wx (kl:=kl) (a:=a) cl jG aq a1 m (i+1) (by omega) (by omega);by_cases a_:i % 2=a
    ·rw [if_pos (decide_eq_true (by omega)),qD (by omega),qD (jG i aR),ZO aR aq,sc];have al:=I1 cl jG aR;have bl:=Is (a:=(qp p.1 o i).2) (b:=d) (A:=10) (B:=50) ⟨al.2.2.1,al.2.2.2⟩ ⟨by omega,a1.2⟩;have cr:=MH al a1;have eY:=Is (M1 aR aq) cr;have lN:=OG (n:=i) (g:=fun i=>if i % 2=a then qz o.length i*q_ d (qp p.1 o i) else 0) (B:=6000) fun j aw=>Qd (B:=600) (by omega) aq (by omega) (MH (I1 cl jG (by omega)) a1);have e1:ix p.1 (ix o (i:Int))=qp p.1 o i:=rfl;rw [e1,qK (n:=(qp p.1 o i).2*d) (by omega)];rw [show (qp p.1 o i).1+(qp p.1 o i).2*d=q_ d (qp p.1 o i) from rfl,qK (n:=q_ d (qp p.1 o i)) (by omega),qK (n:=qz o.length i*q_ d (qp p.1 o i)) (by omega),qK (by omega)];simp only [qO,if_pos a_] at a8;exact a8
    ·rw [if_neg (by simpa using by omega)];simp only [qO,if_neg a_,uZ] at a8;exact a8
   ·(obtain rfl:i=o.length:=by omega);rw [if_neg (by simp)];rfl
theorem Il {n:Nat} (h:n≤1000000):n<ql:=by unfold ql;omega
theorem aiu {p:(List qE)×(Int×Int)} {o:List Int} {d:Int} {a:Nat} (cl:∀ s∈p.1,qV s) (jG:Kw p.1 o) (aq:o.length≤10) (a1:0≤d∧d≤50):Kd p o d (a:Int)=some (ri p.1 o a (q_ d)):=by
 unfold Kd;exact Wx cl jG aq a1 ql 0 (by omega) (Il (by omega))
theorem QF {b:((List (Int×Int))×(Int×Int))×Unit} {n i:Nat} (aI:n≤10) (af:b.1.1.length=n) (hi:i<n):K6 b (i:Int)=some (qz n i):=by
 have:=ZO hi aI;unfold NH at this;unfold K6;rw [af];exact this
theorem Wi {W:List Int} (l9:W.length≤1000) {v:Int}:∀ (m i:Nat),i≤W.length→W.length-i<m→(∀ j,j<i→ix W (j:Int)≠v)→∃ r,Lv W v (fun _=>some (-1:Int)) m (i:Int)=some r∧decide (0≤r)=decide (v∈W)
 | 0,_,_,h,_=>absurd h (by omega)
 | m+1,i,hi,hm,ad=>by
   rw [Lv];by_cases aR:i<W.length
   ·rw [if_pos (decide_eq_true (by omega)),qD (by omega)];by_cases he:v=ix W (i:Int)
    ·rw [if_pos (decide_eq_true he)];refine ⟨_,rfl,?_⟩;rw [decide_eq_true (by omega),decide_eq_true (by rw [he];exact Kn (by omega))]
    ·rw [if_neg (by simpa using he),Iw i (by omega)];refine Wi l9 m (i+1) (by omega) (by omega) fun j aw=>?_;by_cases gf:j=i
     ·subst gf;exact fun e=>he e.symm
     ·exact ad j (by omega)
   ·rw [if_neg (by simpa using by omega)];refine ⟨-1,rfl,?_⟩;rw [decide_eq_false (by omega),decide_eq_false];intro nL;obtain ⟨j,aw,e⟩:=List.getElem_of_mem nL;refine ad j (by omega) ?_;rw [rB aw];exact e
theorem ahJ (W:List Int) (l9:W.length≤1000) (v:Int):OL W v=some (decide (v∈W)):=by
 unfold OL Qk;obtain ⟨r,ab,ae⟩:=Wi (W:=W) l9 (v:=v) ql 0 (by omega) (Il (by omega)) (fun j aw=>absurd aw (by omega));have iO:Lv W v (fun _=>some (-1:Int)) ql 0=some r:=ab;rw [iO,sc,ae]
theorem Wz {b:((List (Int×Int))×(Int×Int))×Unit} {o:List Int} {W:List Int} {a:Nat} {kl:Int→Int→Option (Int×Int)} (cl:∀ s∈b.1.1,qV s) (jG:Kw b.1.1 o) (aq:o.length≤10) (aI:b.1.1.length=o.length) (l9:W.length≤1000) :
  ∀ (m i:Nat),i≤o.length→o.length-i<m →
    K7 b o (a:Int) W kl m (i:Int) (qO i fun i=>if i % 2=a∧(i:Int) ∉ W then qz o.length i*(qp b.1.1 o i).1 else 0) (qO i fun i=>if i % 2=a∧(i:Int) ∉ W then qz o.length i*(qp b.1.1 o i).2 else 0)=kl (qP b.1.1 o a W Prod.fst) (qP b.1.1 o a W Prod.snd)
 | 0,_,_,h=>absurd h (by omega)
 | m+1,i,hi,hm=>by
   rw [K7];by_cases aR:i<o.length
   ·rw [if_pos (decide_eq_true (by omega)),qD (by omega),qD (by decide),Nj,Iw i (by omega)];have a8:=Wz (kl:=kl) (a:=a) (W:=W) cl jG aq aI l9 m (i+1) (by omega) (by omega);by_cases a_:i % 2=a
    ·rw [if_neg (by simpa using by omega),ahJ W l9,sc];by_cases hw:(i:Int)∈W
     ·rw [if_pos (decide_eq_true hw)];simp only [qO,hw,not_true_eq_false,and_false,if_false,uZ] at a8;exact a8
     ·rw [if_neg (by simpa using hw),qD (jG i aR),QF aq aI aR,sc,sc];have al:=I1 cl jG aR;have eY:=Is (M1 aR aq) (b:=(qp b.1.1 o i).1) (B:=100) ⟨by have:=al.1;omega,al.2.1⟩;have aiS:=Is (M1 aR aq) (b:=(qp b.1.1 o i).2) (B:=10) ⟨al.2.2.1,al.2.2.2⟩;have lN:=OG (n:=i) (g:=fun i=>if i % 2=a∧(i:Int) ∉ W then qz o.length i*(qp b.1.1 o i).1 else 0) (B:=1000) fun j aw=>Qd (B:=100) (by omega) aq (by omega) (by have:=I1 cl jG (i:=j) (by omega);exact ⟨by have:=this.1;omega,this.2.1⟩);have aiT:=OG (n:=i) (g:=fun i=>if i % 2=a∧(i:Int) ∉ W then qz o.length i*(qp b.1.1 o i).2 else 0) (B:=100) fun j aw=>Qd (B:=10) (by omega) aq (by omega) (by have:=I1 cl jG (i:=j) (by omega);exact ⟨this.2.2.1,this.2.2.2⟩);have e1:ix b.1.1 (ix o (i:Int))=qp b.1.1 o i:=rfl;rw [e1,qK (n:=qz o.length i*(qp b.1.1 o i).1) (by omega),qK (n:=qz o.length i*(qp b.1.1 o i).2) (by omega),qK (by omega),qK (by omega)];simp only [qO,if_pos (show i % 2=a∧(i:Int) ∉ W from ⟨a_,hw⟩)] at a8;exact a8
    ·rw [if_pos (by simpa using by omega)];simp only [qO,a_,false_and,if_false,uZ] at a8;exact a8
   ·(obtain rfl:i=o.length:=by omega);rw [if_neg (by simp)];rfl
theorem QG {b:((List (Int×Int))×(Int×Int))×Unit} {o:List Int} {W:List Int} {a:Nat} (cl:∀ s∈b.1.1,qV s) (jG:Kw b.1.1 o) (aq:o.length≤10) (aI:b.1.1.length=o.length) (l9:W.length≤1000) :
  MB b o (a:Int) W=some (qP b.1.1 o a W Prod.fst,qP b.1.1 o a W Prod.snd):=by
 unfold MB;exact Wz cl jG aq aI l9 ql 0 (by omega) (Il (by omega))
theorem MY (S:List qE) (o:List Int) (a:Nat) (W:List Int) (d:Int):qP S o a W (q_ d)=qP S o a W Prod.fst+qP S o a W Prod.snd*d:=by
 unfold qP;rw [Int.mul_comm _ d,←OH,←ag9];refine K0 fun i _=>?_;by_cases h:i % 2=a∧(i:Int) ∉ W
 ·simp only [if_pos h,q_];grind
 ·simp only [if_neg h];omega
theorem ae8 (S:List qE) (o:List Int) (a:Nat) (d:Int):ri S o a (q_ d)=ri S o a Prod.fst+ri S o a Prod.snd*d:=by
 simp only [←Ob];exact MY S o a [] d
theorem RI {S:List qE} {o:List Int} {a:Nat} {W:List Int} (cl:∀ s∈S,qV s) (jG:Kw S o) (aq:o.length≤10):-10000≤qP S o a W Prod.fst∧qP S o a W Prod.fst≤10000 :=
 Sj (B:=100) aq (by omega) fun i hi=>by have:=I1 cl jG hi;exact ⟨by have:=this.1;omega,this.2.1⟩
theorem Th {S:List qE} {o:List Int} {a:Nat} {W:List Int} (cl:∀ s∈S,qV s) (jG:Kw S o) (aq:o.length≤10):-1000≤qP S o a W Prod.snd∧qP S o a W Prod.snd≤1000 :=
 Sj (B:=10) aq (by omega) fun i hi=>by have:=I1 cl jG hi;exact ⟨this.2.2.1,this.2.2.2⟩
theorem TE {b:((List (Int×Int))×(Int×Int))×Unit} {o:List Int} {d:Int} (cl:∀ s∈b.1.1,qV s) (jG:Kw b.1.1 o) (aq:o.length≤10) (aI:b.1.1.length=o.length) (a1:0≤d∧d≤50) :
  Mx b o d=some (ri b.1.1 o 0 (q_ d),ri b.1.1 o 1 (q_ d)):=by
 unfold Mx;have aQ:=QG (W:=[]) (a:=0) cl jG aq aI (by simp);have ab:=QG (W:=[]) (a:=1) cl jG aq aI (by simp);rw [show ((0:Nat):Int)=0 from rfl] at aQ;rw [show ((1:Nat):Int)=1 from rfl] at ab;rw [aQ,ab,sc,sc];have one:∀ a,w (qP b.1.1 o a [] Prod.fst+w (qP b.1.1 o a [] Prod.snd*d))=ri b.1.1 o a (q_ d):=fun a=>by
  have a7:=RI (a:=a) (W:=[]) cl jG aq;have a9:=Th (a:=a) (W:=[]) cl jG aq;have br:=Is (b:=d) (B:=50) a9 ⟨by omega,a1.2⟩;rw [qK (n:=qP b.1.1 o a [] Prod.snd*d) (by omega),qK (by omega),←MY,Ob]
 simp only [one]
end Go.Proofs.Ytkoioidpbbbaiaa.Ab


namespace Go.Proofs.Ytkoioidpbbbaiaa.Ab
def q':Nat→List Int→List (List Int)
 | 0,_=>[[]]
 | n+1,left=>left.flatMap fun x=>(q' n (left.erase x)).map (x::·)
theorem RF {left:List Int} {x:Int} {n:Nat} (ao:left.length=n+1) (aj:x∈left):(left.erase x).length=n:=by
 rw [List.length_erase_of_mem aj,ao];rfl
theorem agG {left:List Int} (h:left.Pairwise (·<·)):left.Nodup:=h.imp fun h e=>by omega
theorem WI:∀ (n:Nat) (left:List Int),left.length=n→q' n left≠[]
 | 0,_,_=>by simp [q']
 | n+1,[],h=>by simp at h
 | n+1,x::s,h=>by
   have:=WI n ((x::s).erase x) (RF h (by simp));simp only [q',uE];intro e;exact this (by simpa using (List.append_eq_nil_iff.1 e).1)
theorem WG:∀ (n:Nat) (left:List Int),left.length=n→(q' n left)[0]?=some left
 | 0,left,h=>by rw [sP.1 h];rfl
 | n+1,[],h=>by simp at h
 | n+1,x::s,h=>by
   (have e:(x::s).erase x=s:=by simp);have a8:=WG n s (by simpa using h);simp only [q',uE,e];have R6:0<((q' n s).map (x::·)).length:=by
    rw [s6];exact List.length_pos_iff.2 (WI n s (by simpa using h))
   rw [sj R6,sq,a8];rfl
theorem PH:∀ (n:Nat) (left l:List Int),left.length=n→(l∈q' n left↔l.Perm left)
 | 0,left,l,h=>by
   rw [sP.1 h];simp [q']
 | n+1,left,l,h=>by
   simp only [q',tO,sD];constructor
   ·rintro ⟨x,aj,r,ai,rfl⟩;have:=(PH n (left.erase x) r (RF h aj)).1 ai;exact (this.cons x).trans (vJ aj).symm
   ·intro aB;cases l with
    | nil=>have:=aB.length_eq;simp at this;omega
    | cons x r =>
      have aj:x∈left:=aB.mem_iff.1 (by simp);refine ⟨x,aj,r,(PH n (left.erase x) r (RF h aj)).2 ?_,rfl⟩;exact (List.perm_cons x).1 (aB.trans (vJ aj))
theorem adL {n:Nat} {left l:List Int} (h:left.length=n) (ao:l∈q' n left):l.length=n:=by
 rw [((PH n left l h).1 ao).length_eq,h]
end Go.Proofs.Ytkoioidpbbbaiaa.Ab


namespace Go.Proofs.Ytkoioidpbbbaiaa.Ab
open Go
noncomputable def X6:gB :=
 p4 [⟨some 6, [.jm 3], none, some 3, .Bt⟩, p2 7 [.cv (.func 74 [] []), .jm 6] (.call 1)] (p4 [⟨some 8, [.jm 3], none, some 3, .other (Oper.mk (some 8) (Op.move (Operand.tmp 3)) 27 "iter.go:69" (Array.mk []) none) 2⟩, p3 2 8] .ret)
noncomputable def SW:gB :=
 p4 [p2 2 [.cv (.av [] 0 .full)] (.nil 1)] (p4 [p3 4 0,p2 5 [.cv (.func 73 [] []),.m_ 4] (.call 0),p3 3 5] X6)
theorem WN:qt Go.Proofs.Try.prog UF 58=some (SW,9,[.tmp 2]):=by kernel_rfl
noncomputable def Yd:gB :=
 p4 [p2 2 [.cv (.av [] 0 .full)] (.nil 1)] (p4 [p3 3 0,p2 4 [.cv (.func 88 [] []),.cv (.av [] 0 .full),.m_ 3] (.call 0),p3 2 4] .ret)
theorem ad4:qt Go.Proofs.Try.prog UN 73=some (Yd,5,[.tmp 2]):=by kernel_rfl
noncomputable def agw:gB :=
 p4 [p5 11 0,p3 12 4,p2 13 [.jm 11,.jm 12] (.call 1),p2 14 [.Bv 13] (.un .not)] (.cond (.m_ 14) .ret .skip)
noncomputable def agx:gB :=
 .block 1 (p4 [p2 9 [.m_ 5,.m_ 7] (.kV 1),qj 10 9,p3 4 10] agw)
noncomputable def Ye:gB :=
 p4 [qj 5 1,p2 6 [.m_ 5] .zM,qg 7 0] (.block 0 (.loop (some (qc false [0,1,4,3,8])) (p4 [p2 8 [.m_ 7,.m_ 6] (.bin .lss)] (.seq (.cond (.m_ 8) .skip (.exit 0)) (.seq agx (qR [qY 15 7 1,p3 7 15]))))))
theorem ad5:qt Go.Proofs.Try.prog UQ 75=some (Ye,16,[]):=by kernel_rfl
noncomputable def Xv:gB :=
 p4 [p2 2 [.jm 0] .box,p2 4 [.cv (.av [] 0 .full)] (.nil 1)] (.seq (p4 [p3 6 1] (.block 0 (.AP (.m_ 6) [7] (rz Go.Proofs.Try.prog 88 0) (rA Go.Proofs.Try.prog 88 0)))) (p4 [p2 12 [.Bv 2] .take,p3 4 12] .ret))
theorem adN:qt Go.Proofs.Try.prog Ki 88=some (Xv,13,[.tmp 4]):=by kernel_rfl
end Go.Proofs.Ytkoioidpbbbaiaa.Ab


namespace Go.Proofs.Ytkoioidpbbbaiaa.Ab
open Go
set_option maxRecDepth 20000
set_option maxHeartbeats 4000000
noncomputable def Yf:gB :=
 .ou false [p2 5 [.jm 7] .mR]
theorem ad6:eu Try.prog Ki (rz Try.prog 88 0) 0=some Yf:=by kernel_rfl
noncomputable def Yj:gB :=
 .block 1 (.ou false [p2 8 [.m_ 2] .take,p2 9 [.jm 5] .mR,p2 10 [.Bv 9] (.yE 1 1 [.int .i64 0] [0]),p2 11 [.jm 8,.jm 10] (.app 1 8),⟨none,[.jm 2,.jm 11],none,none,.Bn⟩])
theorem ad_:eu Try.prog Ki (rA Try.prog 88 0) 0=some Yj:=by kernel_rfl
def J6 (l:List Int):I:=match l with | []=>.av [] 0 .full | _=>.raw (l.map hX) l.length 1
def Pj (l:List Int):I:=match l with | []=>.av [] 0 .full | _=>.av (l.map hX) l.length (.uniq 1)
theorem abe {l:List Int} {e:Int} {yk fx Gl Gm r4 Jv HV u8 HW HS HT HU:I} (ao:l.length≤1000) (Y:List ar) :
  ∃ qM,Sem Try.prog (.yield [ar.cells [J6 l]].length) [hX e] (([ar.cells [J6 l]]++[ar.loop .ready none 88 [yk,fx,.ptr 0 0,Gl,Gm,r4,Jv,HV,u8,HW,HS,HT,HU] [7] (rz Try.prog 88 0) (rA Try.prog 88 0) Ki])++Y) 0 (.bool true) (([ar.cells [J6 (l++[e])]]++[ar.loop .ready none 88 [yk,fx,.ptr 0 0,Gl,Gm,r4,Jv,HV,u8,HW,HS,HT,HU] [7] (rz Try.prog 88 0) (rA Try.prog 88 0) Ki])++qM):=by
 refine ⟨Y,P9 eD ad6 ad_ (I8 _ _ _) rfl (Ja (by simp)) ?_⟩;unfold Yf;conv=>whnf
 refine ⟨rfl,I8 _ _ _,?_⟩;rw [J_];unfold Yj;cases l with
 | nil =>
   (conv=>whnf);refine ⟨rfl,by omega,?_⟩;(conv=>whnf);refine ⟨by decide,by decide,rfl,?_⟩;(conv=>whnf);refine ⟨rfl,by decide,Gr (by decide) ?_⟩;(conv=>whnf);show _∧(([ar.cells [J6 ([]++[e])]]++[ar.loop .busy none 88 [yk,fx,.ptr 0 0,Gl,Gm,r4,Jv,HV,u8,HW,HS,HT,HU] [7] (rz Try.prog 88 0) (rA Try.prog 88 0) Ki])++Y)[[ar.cells [J6 ([]++[e])]].length]?=_∧lF ((([ar.cells [J6 ([]++[e])]]++[ar.loop .busy none 88 [yk,fx,.ptr 0 0,Gl,Gm,r4,Jv,HV,u8,HW,HS,HT,HU] [7] (rz Try.prog 88 0) (rA Try.prog 88 0) Ki])++Y).set [ar.cells [J6 ([]++[e])]].length _) _;exact ⟨rfl,I8 _ _ _,by rw [J_];exact lF.refl _⟩
 | cons a l =>
   (conv=>whnf);refine ⟨rfl,by omega,?_⟩;(conv=>whnf);refine ⟨rfl,by simp only [sM] at ao ⊢;omega,?_⟩;(conv=>whnf);refine ⟨?_,Nat.succ_ne_zero _,Gr (by simp) ?_⟩
   ·show ((a::l).map hX++[hX e]).all gY=true;rw [←List.map_singleton (f:=hX),←sT];exact sr.2 fun x aj=>by obtain ⟨y,_,rfl⟩:=sD.1 aj;rfl
   (conv=>whnf);have e1:I.raw ((a::l).map hX++[hX e]) ((a::l).length+1) 1=J6 ((a::l)++[e]):=by
    show _=I.raw (((a::l)++[e]).map hX) ((a::l)++[e]).length 1;rw [sT,sE];rfl
   show _∧(([ar.cells [I.raw ((a::l).map hX++[hX e]) ((a::l).length+1) 1]]++[ar.loop .busy none 88 [yk,fx,.ptr 0 0,Gl,Gm,r4,Jv,HV,u8,HW,HS,HT,HU] [7] (rz Try.prog 88 0) (rA Try.prog 88 0) Ki])++Y)[[ar.cells [I.raw ((a::l).map hX++[hX e]) ((a::l).length+1) 1]].length]?=_∧lF ((([ar.cells [I.raw ((a::l).map hX++[hX e]) ((a::l).length+1) 1]]++[ar.loop .busy none 88 [yk,fx,.ptr 0 0,Gl,Gm,r4,Jv,HV,u8,HW,HS,HT,HU] [7] (rz Try.prog 88 0) (rA Try.prog 88 0) Ki])++Y).set [ar.cells [I.raw ((a::l).map hX++[hX e]) ((a::l).length+1) 1]].length _) _;rw [e1];exact ⟨rfl,I8 _ _ _,by rw [J_];exact lF.refl _⟩
theorem ML (l:List Int):cn 8 (Pj l)=true:=by
 cases l with
 | nil=>rfl
 | cons a l=>exact rT (fun _=>rfl) _ _ _
theorem abU {k:FuncId} {cap:List I} {l:List Int} (IX:Seq Try.prog k cap (l.map hX)) (ao:l.length≤1000):qy 88 [.av [] 0 .full,.func k [] cap] (Pj l):=by
 refine Pp eD adN rfl (ML l) fun Q bo=>?_;unfold Xv;obtain ⟨a7,cc⟩:∃ c,gB.AP (.m_ 6) [7] (rz Try.prog 88 0) (rA Try.prog 88 0)=c:=⟨_,rfl⟩;rw [cc];conv=>whnf
 subst cc;refine agM (f:=hX) IX (fun i=>[ar.cells [J6 (l.take i)]]) (by exact rfl) (by exact rfl) (fun _=>rfl) ?_ (rl:=none) (by exact rfl) (Hn:=[ar.cells [J6 l]]) (by show [ar.cells [J6 (l.take l.length)]]=_;rw [List.take_length]) ?_
 ·intro i hi Y;rw [show l.take (i+1)=l.take i++[l[i]] by rw [List.take_add_one,sk hi];rfl];exact abe (l:=l.take i) (e:=l[i]) (by rw [te];omega) Y
 ·intro qM;cases l with
  | nil =>
    (conv=>whnf);exact bo _ _ _ (KZ (.inr rfl) (ML _) rfl)
  | cons a l =>
    (conv=>whnf);exact bo _ _ _ (KZ (.inr rfl) (ML _) rfl)
theorem Vd {k:FuncId} {cap:List I} {l:List Int} (pv:cap.all (cn 7)=true) (IX:Seq Try.prog k cap (l.map hX)) (ao:l.length≤1000):qy 73 [.func k [] cap] (Pj l):=by
 refine Pp eD ad4 rfl (ML l) fun Q bo=>?_;unfold Yd;conv=>whnf
 refine ⟨_,_,NS (p6 rfl (p6 (Jp rfl pv) rfl)) (abU IX ao) _ _,?_⟩;cases l with
 | nil =>
   (conv=>whnf);exact bo _ _ _ (KZ (.inr rfl) (ML _) rfl)
 | cons a l =>
   (conv=>whnf);exact bo _ _ _ (KZ (.inr rfl) (ML _) rfl)
end Go.Proofs.Ytkoioidpbbbaiaa.Ab


namespace Go.Proofs.Ytkoioidpbbbaiaa.Ab
open Go
def Ry:hB→hB→Bool
 | .shared,.shared=>true
 | .full,.full=>true
 | .own a,.own b=>Nat.beq a b
 | .uniq a,.uniq b=>Nat.beq a b
 | _,_=>false
theorem abG:∀ {a b:hB},Ry a b=true→a=b:=by
 intro a b h;cases a <;> cases b <;> simp only [Ry,tS] at h <;> first | rfl | (rw [sR h])
def Jn (f:I→I→Bool):List I→List I→Bool
 | [],[]=>true
 | a::l,b::r=>match f a b with
   | true=>Jn f l r
   | false=>false
 | _,_=>false
theorem KQ {f:I→I→Bool} (aP:∀ a b,f a b=true→a=b):∀ {a b:List I},Jn f a b=true→a=b
 | [],[],_=>rfl
 | [],_::_,h=>by simp [Jn] at h
 | _::_,[],h=>by simp [Jn] at h
 | a::l,b::r,h=>by
   simp only [Jn] at h;split at h
   ·rename_i jI;rw [aP a b jI,KQ aP h]
   ·cases h
def Jz:Nat→I→I→Bool
 | 0,_,_=>false
 | d+1,a,b=>match a,b with
   | .bool x,.bool y=>match x,y with | true,true=>true | false,false=>true | _,_=>false
   | .int k x,.int q y=>match decide (k=q),decide (x=y) with | true,true=>true | _,_=>false
   | .eF,.eF=>true
   | .bR x,.bR y=>Jn (Jz d) x y
   | .av x n c,.av y m e=>match Jn (Jz d) x y,Nat.beq n m,Ry c e with | true,true,true=>true | _,_,_=>false
   | .func f x y,.func g z w=>match Nat.beq f g,Jn (Jz d) x z,Jn (Jz d) y w with | true,true,true=>true | _,_,_=>false
   | .agg x,.agg y=>Jn (Jz d) x y
   | .tuple x,.tuple y=>Jn (Jz d) x y
   | _,_=>false
theorem Pd:∀ (d:Nat) (a b:I),Jz d a b=true→a=b
 | 0,_,_,h=>by simp [Jz] at h
 | d+1,a,b,h=>by
   have a8:=Pd d;unfold Jz at h;split at h
   ·split at h <;> first | rfl | cases h
   ·rename_i k x q y;split at h
    ·rename_i ab ae;rw [of_decide_eq_true ab,of_decide_eq_true ae]
    ·cases h
   ·rfl
   ·rw [KQ a8 h]
   ·split at h
    ·rename_i ab ae aF;rw [KQ a8 ab,sR ae,abG aF]
    ·cases h
   ·split at h
    ·rename_i ab ae aF;rw [sR ab,KQ a8 ae,KQ a8 aF]
    ·cases h
   ·rw [KQ a8 h]
   ·rw [KQ a8 h]
   ·cases h
inductive LU where
 | pure (k:Nat) (args:List I) (v:I)
 | map (k:Nat) (args:List I) (es:List (Nat×I×I)) (clock:Nat)
def RC (P:Program):LU→Prop
 | .pure k args v=>nj P k args v
 | .map k args es clock=>∀ H,Sem P (.fn k) args H H.length (.map H.length) (H++[.map es clock])
def look (k:Nat) (args:List I) (H:List ar) (lo:Nat):List LU→Option (I×List ar)
 | []=>none
 | .pure q bs v::r=>match Nat.beq k q with
   | true=>match Jn (Jz 20) args bs with
     | true=>match H with
       | []=>some (v,[])
       | _=>look k args H lo r
     | false=>look k args H lo r
   | false=>look k args H lo r
 | .map q bs es clock::r=>match Nat.beq k q with
   | true=>match Jn (Jz 20) args bs with
     | true=>match Nat.beq lo H.length with
       | true=>some (.map H.length,H++[.map es clock])
       | false=>look k args H lo r
     | false=>look k args H lo r
   | false=>look k args H lo r
def Qc (l:List LU):b6:=fun bX args H lo=>match bX with
 | .fn k=>look k args H lo l
 | _=>none
theorem Sem.aed {P:Program} {bX:e'} {args:List I} {r:I} {H':List ar} (h:Sem P bX args [] 0 r H') (lo:Nat):Sem P bX args [] lo r H' :=
 ⟨⟨h.1.1,fun _ _ h=>by simp at h⟩,h.2⟩
theorem look_ok {P:Program} {k:Nat} {args:List I} {H:List ar} {lo:Nat} {r:I} {H':List ar}:∀ {l:List LU},(∀ e∈l,RC P e)→look k args H lo l=some (r,H')→Sem P (.fn k) args H lo r H'
 | [],_,h=>by simp [look] at h
 | .pure q bs v::l,ao,h=>by
   have L8:=look_ok (k:=k) (args:=args) (H:=H) (lo:=lo) (r:=r) (H':=H') fun e he=>ao e (tV _ he);unfold look at h;split at h
   ·rename_i ab;split at h
    ·rename_i ae;split at h
     ·cases h;have:=ao (.pure q bs r) tZ;rw [sR ab,KQ (Pd 20) ae];exact this.1.aed lo
     ·exact L8 h
    ·exact L8 h
   ·exact L8 h
 | .map q bs es clock::l,ao,h=>by
   have L8:=look_ok (k:=k) (args:=args) (H:=H) (lo:=lo) (r:=r) (H':=H') fun e he=>ao e (tV _ he);unfold look at h;split at h
   ·rename_i ab;split at h
    ·rename_i ae;split at h
     ·rename_i aF;cases h;have:=ao (.map q bs es clock) tZ;rw [sR ab,KQ (Pd 20) ae,sR aF];exact this H
     ·exact L8 h
    ·exact L8 h
   ·exact L8 h
theorem YQ {P:Program} {l:List LU} (ao:∀ e∈l,RC P e):c3 P (Qc l):=o6 fun bX args H lo r H' h=>by
 cases bX with
 | fn k=>exact look_ok ao h
 | yield i=>simp [Qc] at h
def Ln (A:FuncId→dt):Nat→List Func→Bool
 | _,[]=>true
 | k,f::r=>match (A k).bad with
   | true=>Ln A (k+1) r
   | false=>match f.body with
     | some c => match codeOk (A k) c, f.name == "runtime.NumGoroutine" with
       | true,false=>Ln A (k+1) r
       | _,_=>false
     | none=>Ln A (k+1) r
theorem W9 {A : FuncId → dt} : ∀ {l : List Func} {k : Nat}, Ln A k l = true → ∀ (i : Nat) (f : Func) (c : Code), (A (k + i)).bad = false → l[i]? = some f → f.body = some c → codeOk (A (k + i)) c = true ∧ f.name ≠ "runtime.NumGoroutine"
 | [],_,_,i,f,c,_,h,_=>by simp at h
 | g::r,k,h,i,f,c,nD,aP,ak=>by
   unfold Ln at h;cases i with
   | zero =>
     simp at aP;subst aP;rw [Nat.add_zero] at nD;rw [nD,ak] at h;simp only at h;split at h
     ·rename_i ab ae;exact ⟨ab,by simpa using ae⟩
     ·cases h
   | succ i =>
     have ai:Ln A (k+1) r=true:=by
      split at h
      ·exact h
      ·split at h
       ·split at h
        ·exact h
        ·cases h
       ·exact h
     have:=W9 ai i f c (by rw [show k+1+i=k+(i+1) by omega];exact nD) (by simpa using aP) ak;rw [show k+(i+1)=k+1+i by omega];exact this
theorem W8 {P : Program} {A : FuncId → dt} (h : Ln A 0 P.funcs.toList = true) (k : Nat) (f : Func) (c : Code) (af : (A k).bad = false) (aP : P.funcs[k]? = some f) (ak : f.body = some c) : codeOk (A k) c = true ∧ f.name ≠ "runtime.NumGoroutine" := by
 have:=W9 h k f c (by rw [sG];exact af) (by simpa using aP) ak
 rwa [sG] at this
theorem UX:Ln jA 0 Go.Proofs.Try.prog.funcs.toList=true:=by kernel_rfl
noncomputable def Te (l:List LU) (k:Nat) (args:List I):Option I:=match fZ Go.Proofs.Try.prog jA (Qc l) 300 (.fn k) args [] 0 with
 | some (r,H2)=>match bL H2 0 H2.length 0 8 r with
   | some v=>match cn 8 v.settle with
     | true=>some v.settle
     | false=>none
   | none=>none
 | none=>none
theorem agP {l:List LU} (ao:∀ e∈l,RC Go.Proofs.Try.prog e) {k:Nat} {args:List I} {v:I} (h:Te l k args=some v):nj Go.Proofs.Try.prog k args v:=by
 unfold Te at h;split at h
 ·rename_i r H2 ak;split at h
  ·rename_i u aP;split at h
   ·rename_i aB;cases h;have ah:=(Ce eD jA (YQ ao) (W8 UX) 300).Hd ak;refine ⟨⟨a'.refl _ _,ah.2.1,fun B aa J S w xs ag aI ad=>CallsIn.mono (ah.2.2 B aa J S w xs ag aI ad) fun e w' he=>?_⟩,aB⟩;cases e with
    | returned x =>
      have kN:=xJ ag (fun id aE=>by simp at aE) aP he;show aZ B aa J S w [] u.settle x w';cases u with
      | av cells len ej =>
        cases ej with
        | uniq z=>exact kN.settle
        | _=>exact kN
      | _=>exact kN
    | panicked c=>exact he.elim
    | outgrown=>exact he.elim
   ·cases h
  ·cases h
 ·cases h
end Go.Proofs.Ytkoioidpbbbaiaa.Ab


namespace Go.Proofs.Ytkoioidpbbbaiaa.Ab
open Go
noncomputable def agv:gB :=
 .ou false [p3 5 0,p5 6 2,p3 7 2,p2 8 [.Bv 7] (.conv .u64),p2 9 [.cv (.func 70 [] []),.m_ 8] (.call 3),p2 10 [.cv (.func 89 [] []),.jm 5,.cv (.int .i64 0),.jm 6,.jm 9] (.call 1)]
noncomputable def Ta:gB :=
 p4 [p5 3 0,qZ 4 3,p3 2 4] agv
theorem WR:qt Go.Proofs.Try.prog UO 74=some (Ta,11,[]):=by kernel_rfl
noncomputable def On:gB :=
 p4 [p3 24 0,p3 25 1,p3 26 2,p2 27 [.cv (.func 96 [] []),.jm 24,.jm 25,.jm 26] (.call 1)] .ret
noncomputable def afH:gB :=
 p4 [p3 30 0,p3 31 1,p3 32 2,p2 33 [.cv (.func 97 [] []),.jm 30,.jm 31,.jm 32] (.call 1)] .ret
noncomputable def afI:gB :=
 p4 [p5 36 0,p5 37 1,p5 38 2,p2 39 [.cv (.func 98 [] []),.jm 36,.jm 37,.jm 38] (.call 1)] (qR [p3 40 3,qw 41 40 1 .sub,p3 3 41])
noncomputable def afJ:gB :=
 p4 [p5 55 2,qw 56 55 1 .sub,p3 57 11,p5 58 1,qv 59 57 58 .sub,qv 60 56 59 .sub,p3 11 60] (qR [qg 12 1])
noncomputable def afK:gB :=
 p4 [p5 51 0,p5 52 1,p5 53 2,p2 54 [.cv (.func 100 [] []),.jm 51,.jm 52,.jm 53] (.call 1)] afJ
noncomputable def afL:gB :=
 p4 [p5 69 0,p5 70 1,p5 71 2,p2 72 [.cv (.func 101 [] []),.jm 69,.jm 70,.jm 71] (.call 1)] (.cond (.m_ 72) .ret .skip)
noncomputable def afM:gB :=
 p4 [p5 88 0,p3 89 1,p5 90 2,p3 91 11,p2 92 [.cv (.func 103 [] []),.jm 88,.jm 89,.jm 90,.jm 91] (.call 1),p3 13 92] (p4 [p3 93 13,p3 1 93] (.exit 1))
noncomputable def afN:gB :=
 p4 [p5 117 0,p3 118 1,p5 119 14,p5 120 3,p2 121 [.cv (.func 89 [] []),.jm 117,.jm 118,.jm 119,.jm 120] (.call 1)] (qR [p3 122 14,qY 123 122 1,p3 1 123])
noncomputable def afO:gB :=
 p4 [p3 114 16,p3 115 18,qv 116 114 115 .geq,p3 8 116] afN
noncomputable def afz:gB :=
 p4 [p5 127 0,p5 128 14,qY 129 128 1,p3 130 2,p5 131 3,p2 132 [.cv (.func 89 [] []),.jm 127,.jm 129,.jm 130,.jm 131] (.call 1)] (qR [p3 133 14,p3 2 133])
noncomputable def afA:gB :=
 p4 [p3 124 17,p3 125 18,qv 126 124 125 .geq,p3 8 126] afz
noncomputable def afB:gB :=
 p4 [p3 109 10,qw 110 109 8 .quo,p3 18 110] (p4 [p5 111 16,p5 112 17,qv 113 111 112 .lss] (.cond (.m_ 113) afO afA))
noncomputable def afC:gB :=
 p4 [p5 103 14,p5 104 1,qv 105 103 104 .sub,p5 106 2,p5 107 14,qv 108 106 107 .sub,p3 16 105,p3 17 108] afB
noncomputable def afD:gB :=
 p4 [p5 95 0,p5 96 1,p5 97 2,p3 98 11,p2 99 [.cv (.func 104 [] []),.jm 95,.jm 96,.jm 97,.jm 98] (.call 1),p3 94 99,qn 100 94 0,p2 101 [.Bv 94] (.ext 1),p3 14 100,p3 15 101] (p4 [p3 102 15,p3 9 102] afC)
noncomputable def afE:gB :=
 .seq (.seq (q4 [p5 73 1,qw 74 73 0 .gtr,p3 75 74,ch 76 [.m_ 0] 75 true .mR,ch 77 [.m_ 1] 75 true .mR,ch 78 [.Bv 77,.cv (.int .i64 1)] 75 true (.bin .sub),ch 79 [.Bv 76,.Bv 78] 75 true (.kV 1),ch 80 [.Bv 79] 75 true (.zH .one),ch 81 [.m_ 0] 75 true .mR,ch 82 [.m_ 11] 75 true .mR,ch 83 [.Bv 81,.Bv 82] 75 true (.kV 1),ch 84 [.Bv 83] 75 true (.zH .one),⟨some 85,[.cv (.func 102 [] []),.m_ 80,.m_ 84],some (75,true),none,.call 3⟩,ch 86 [.Bv 85] 75 true (.un .not),p2 87 [.m_ 75,.Bv 86,.cv (.bool false)] .pick]) (.cond (.m_ 87) afM .skip)) afD
noncomputable def afF:gB :=
 .seq (p4 [p5 61 8,p3 62 61,ch 63 [.m_ 9] 62 true .mR,p2 64 [.Bv 62,.Bv 63,.cv (.bool false)] .pick,p3 65 64,ch 66 [.jm 12] 65 true .mR,ch 67 [.Bv 66,.cv (.int .i64 1)] 65 true (.bin .eql),p2 68 [.Bv 65,.Bv 67,.cv (.bool false)] .pick] (.cond (.m_ 68) afL .skip)) afE
noncomputable def afG:gB :=
 p4 [p5 43 0,p5 44 1,p5 45 2,p2 46 [.cv (.func 99 [] []),.jm 43,.jm 44,.jm 45] (.call 1),p3 42 46,qn 47 42 0,p2 48 [.Bv 42] (.ext 1),p3 11 47,p3 12 48] (.seq (p4 [p5 49 12,qw 50 49 2 .eql] (.cond (.m_ 50) afK .skip)) afF)
noncomputable def Sx:gB :=
 .seq (p4 [p5 28 3,qw 29 28 0 .eql] (.cond (.m_ 29) afH .skip)) (.seq (p4 [p5 34 8,p2 35 [.Bv 34] (.un .not)] (.cond (.m_ 35) afI .skip)) afG)
noncomputable def Oo:gB :=
 .block 1 (p4 [p5 19 2,p5 20 1,qv 21 19 20 .sub,p3 10 21] (.seq (p4 [p5 22 10,qw 23 22 12 .leq] (.cond (.m_ 23) On .skip)) Sx))
noncomputable def Sw:gB :=
 p4 [p2 8 [.cv (.bool true)] .mR] (p4 [p2 9 [.cv (.bool true)] .mR] (.block 0 (.loop (some (qc false [0,4,4,2,124])) Oo)))
theorem WK:qt Go.Proofs.Try.prog UT 89=some (Sw,134,[]):=by kernel_rfl
noncomputable def afP:gB :=
 .block 3 (q4 [p5 33 0,p5 34 7,p5 35 0,p5 36 7,qw 37 36 1 .sub,p5 38 0,p5 39 7,qw 40 39 1 .sub,rk 41 38 40 1,qj 42 41,p5 43 0,p5 44 7,rk 45 43 44 1,qj 46 45,rk 47 33 34 1,⟨none,[.jm 47,.jm 42],none,none,.st 1⟩,rk 48 35 37 1,⟨none,[.jm 48,.jm 46],none,none,.st 1⟩])
noncomputable def afQ:gB :=
 .seq (.seq (q4 [p5 16 7,p5 17 1,qv 18 16 17 .gtr,p3 19 18,ch 20 [.m_ 0] 19 true .mR,ch 21 [.m_ 7] 19 true .mR,ch 22 [.Bv 20,.Bv 21] 19 true (.kV 1),ch 23 [.Bv 22] 19 true (.zH .one),ch 24 [.m_ 0] 19 true .mR,ch 25 [.m_ 7] 19 true .mR,ch 26 [.Bv 25,.cv (.int .i64 1)] 19 true (.bin .sub),ch 27 [.Bv 24,.Bv 26] 19 true (.kV 1),ch 28 [.Bv 27] 19 true (.zH .one),⟨some 29,[.cv (.func 102 [] []),.m_ 23,.m_ 28],some (19,true),none,.call 3⟩,p2 30 [.m_ 19,.Bv 29,.cv (.bool false)] .pick]) (.cond (.m_ 30) .skip (.exit 2))) (.seq afP (qR [p3 31 7,qw 32 31 1 .sub,p3 7 32]))
noncomputable def afR:gB :=
 .block 1 (p4 [p5 15 6,p3 7 15] (.block 2 (.loop (some (qc false [0,3,3,2,41])) afQ)))
noncomputable def afS:gB :=
 .seq (p4 [p5 10 6,p5 11 2,qv 12 10 11 .lss] (.cond (.m_ 12) .skip (.exit 0))) (.seq afR (qR [p3 13 6,qY 14 13 1,p3 6 14]))
noncomputable def Sy:gB :=
 p4 [p5 8 1,qY 9 8 1,p3 6 9] (.block 0 (.loop (some (qc false [0,3,3,1,42])) afS))
theorem WL:qt Go.Proofs.Try.prog UW 96=some (Sy,49,[]):=by kernel_rfl
noncomputable def afT:gB :=
 p4 [p5 5 0,p2 6 [.cv (.func 109 [] []),.m_ 5] (.call 3),p3 7 6,ch 8 [.m_ 1] 7 true .mR,⟨some 9,[.cv (.func 109 [] []),.m_ 8],some (7,true),none,.call 3⟩,ch 10 [.Bv 9] 7 true (.un .not),p2 11 [.Bv 7,.Bv 10,.cv (.bool false)] .pick,p3 12 11,ch 13 [.jm 0] 12 false .mR,ch 14 [.jm 1] 12 false .mR,ch 15 [.Bv 13,.Bv 14] 12 false (.bin .lss),p2 16 [.Bv 12,.cv (.bool true),.Bv 15] .pick,p3 4 16] .ret
noncomputable def Xw:gB :=
 p4 [p2 4 [.cv (.bool false)] .mR] afT
theorem adO:qt Go.Proofs.Try.prog T_ 102=some (Xw,17,[.tmp 4]):=by kernel_rfl
noncomputable def afU:gB :=
 p4 [p5 3 0,p3 4 0,qv 5 3 4 .neq,p3 2 5] .ret
noncomputable def Xx:gB :=
 p4 [p2 2 [.cv (.bool false)] .mR] afU
theorem adP:qt Go.Proofs.Try.prog T' 109=some (Xx,6,[.tmp 2]):=by kernel_rfl
end Go.Proofs.Ytkoioidpbbbaiaa.Ab
