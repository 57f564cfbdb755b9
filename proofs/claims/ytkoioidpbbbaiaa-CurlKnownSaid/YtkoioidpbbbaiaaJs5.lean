
import Derived.Test.YtkoioidpbbbaiaaJs1
import Derived.Test.YtkoioidpbbbaiaaJs4
import Derived.Test.YtkoioidpbbbaiaaProg
import Derived.KernelRfl
import Derived.IntWalk
import Derived.ProofKit
import Derived.Deep.Slices
import Derived.ChangeStays
import Derived.Below
import Derived.WalkKit
import Derived.Sort.AssemblyPlain
set_option linter.unusedSimpArgs false
set_option linter.unusedVariables false
set_option linter.unusedSectionVars false

open Bool renaming and_eq_true→sn,and_self→tS,and_true→tp,false_eq_true→tL
open Classical renaming choose_spec→ur
open Int renaming add_zero→uQ
open List renaming all_cons→tt,all_eq_true→sk,all_nil→tV,append_assoc→sw,append_nil→sM,drop_eq_getElem_cons→s7,drop_zero→tj,flatMap_cons→ux,getElem?_append→sm,getElem?_append_left→sf,getElem?_append_right→sr,getElem?_drop→sN,getElem?_eq_getElem→sg,getElem?_eq_some_iff→r_,getElem?_map→sj,getElem?_set_ne→sc,getElem?_take→sH,length_append→sB,length_cons→sJ,length_eq_zero_iff→sO,length_map→sW,length_take→s9,map_append→sT,map_congr_left→tF,map_cons→sD,map_drop→tC,map_id→uO,map_map→vm,map_nil→uw,mem_append_left→vo,mem_append_right→vn,mem_cons_of_mem→tO,mem_cons_self→tU,mem_flatMap→tG,mem_iff_getElem?→sV,mem_map→sA,mem_range→sE,perm_cons_erase→vp,set_set→sU,take_of_length_le→tb
open Nat renaming add_comm→te,add_mul→s8,eq_of_beq_eq_true→sL,le_refl→sb,lt_succ_self→sG,mul_one→ti,zero_add→sy,zero_le→sC
open Option renaming bind_some→sa,map_some→sd
namespace Go.Proofs.Ytkoioidpbbbaiaa.Ab
open Go
abbrev pZ:bZ:={ cC:=[true] }
abbrev p6:bZ:={ cC:=[true,true] }
def p5 (l:List Nat):List bZ:=l.map fun n=>match n with
 | 0=>{}
 | 1=>pZ
 | _=>p6
def YS:dw:={ ops:=[[{ mode:=3 }]] }
def SK:dw:={ ops:=[[pZ],[{},{ mode:=3 },pZ,{},pZ,pZ,{ cC:=[true,false,true] }],[{ mode:=3 },pZ],[{},{},{},{ mode:=3 },pZ,{},{},pZ,pZ,pZ,pZ],[{},{},pZ,{ mode:=3 },pZ,{},{},pZ,pZ,pZ,pZ],[{},{},{ mode:=3 },pZ,{},pZ,pZ,pZ],[{},pZ,{ mode:=3 },pZ,{},pZ,pZ,pZ],[{},{ mode:=3 },{},{ mode:=3 },p6,pZ,pZ,pZ,p6,{ cC:=[false,true] },pZ,pZ,pZ,p6,{ cC:=[false,true] },pZ,pZ,pZ,p6,{ cC:=[false,true] },pZ,pZ,pZ,p6,{ cC:=[false,true] },pZ,pZ,pZ,p6,{ cC:=[false,true] },pZ,{ mode:=3 },{ cC:=[false,true] },pZ]] }
def YT:dw:={ ops:=[[pZ],[{},{ mode:=3 },pZ,pZ,{},pZ,pZ,{ cC:=[true,false,true] }],[{ mode:=3 },pZ],[{},pZ,pZ,pZ,{ mode:=3 },pZ],[],(p5 [0,1,1,1]),[{},pZ],(p5 [1,1,1]),(p5 [1,0,0,2,1,1,2,1]),(p5 [0,1,1,1,1,0,1,1,0,1,1,2,1,2,2,1]),[{},{},{},{ mode:=3 },pZ,{},{},pZ,pZ,pZ,pZ],[{},{},pZ,{ mode:=3 },pZ,{},{},pZ,pZ,pZ,pZ],[{},{},{ mode:=3 },pZ,{},pZ,pZ,pZ],[{},{},{ mode:=3 },pZ,{},pZ,pZ,pZ],[{},{ mode:=3 },pZ,{},pZ,pZ,pZ],[{},pZ,{ mode:=3 },pZ,{},pZ,pZ,pZ],[pZ,pZ,{ mode:=3 },pZ,{},pZ,pZ,pZ],[pZ,pZ,pZ,pZ,pZ,p6,pZ,pZ,pZ,pZ,p6,p6,pZ,pZ,pZ,pZ,p6,p6,pZ,pZ,pZ,p6,pZ,pZ,pZ,p6,pZ,pZ,pZ,p6,p6,pZ,pZ,pZ,p6,pZ,pZ,pZ,pZ,p6,pZ,pZ,pZ,p6,pZ,pZ,pZ,p6,pZ,pZ,pZ,p6,p6,pZ,{ mode:=3 },p6,pZ]],il:=[(0,(p_ false [2,2,3,3,161]))] }
def YU:dw:={ ops:=[[pZ],[{},{ mode:=3 },pZ,pZ,{},pZ,pZ,{ cC:=[true,false,true] },pZ,{},pZ,pZ,{ cC:=[true,false,true] }],[{ mode:=3 },pZ],[{},pZ,pZ,pZ,{ mode:=3 },pZ],[{},{},{ mode:=3 },pZ,{},pZ,pZ,pZ],[{},{},{ mode:=3 },pZ,{},pZ,pZ,pZ],[{},{},{ mode:=3 },pZ,{},pZ,pZ,pZ],[pZ,pZ,pZ,pZ,pZ,{ cC:=[true,false,true] },pZ,pZ,pZ,{ cC:=[true,false,true] },pZ,{},pZ,{},p6,{ cC:=[true,false,true] },pZ,{},{},pZ,pZ,p6,{ cC:=[true,false,true] },pZ,{},pZ,pZ,pZ,p6,{ cC:=[true,false,true] }],[],[{},{},{},{ mode:=3 },pZ,{},pZ,pZ,pZ],[{},{},pZ,{ mode:=3 },pZ,{},pZ,pZ,pZ],[pZ,pZ,pZ,pZ,pZ,{ cC:=[true,false,true] },pZ,pZ,{},p6,{ cC:=[true,false,true] },pZ,pZ,{},p6,{ cC:=[true,false,true] }],[],[{},{},{},{ mode:=3 },pZ,{},pZ,pZ,pZ],[{},pZ],[{},pZ,pZ,pZ,pZ,{ cC:=[true,false,true] },pZ,{ mode:=3 },p6,pZ],[pZ,pZ,{},{ mode:=3 },pZ,{},pZ,pZ,pZ],[pZ,pZ,pZ,pZ,{},p6,p6,pZ,{},pZ,pZ,p6,p6,pZ,pZ,pZ,p6,p6,pZ,{ mode:=3 },p6,pZ]] }
def YV:dw:={ ops:=[[pZ],[{},{ mode:=3 },pZ,pZ,{},pZ,pZ,{ cC:=[true,false,true] }],[{ mode:=3 },pZ],(p5 [0,1,1,1]),[{},pZ,{ mode:=3 },pZ],[{},{ mode:=3 },pZ,{},pZ,pZ,pZ],[{},{ mode:=3 },pZ,{},pZ,pZ,pZ],[{},{},{ mode:=3 },pZ,{},pZ,pZ,pZ],[pZ,pZ,{ mode:=3 },pZ,{},pZ,pZ,pZ],[pZ,pZ,pZ,pZ,pZ,{ cC:=[true,false,true] },pZ,pZ,pZ,{ cC:=[true,false,true] },pZ,pZ,pZ,{ cC:=[true,false,true] },pZ,{},pZ,{},p6,{ cC:=[true,false,true] },pZ,{},pZ,{},p6,{ cC:=[true,false,true] }],[],[],(p5 [0,0,1,2]),(p5 [1,1,1]),[{},{},p6,pZ,pZ,pZ,{},{},p6,pZ,{},p6,{ cC:=[false,false,true] },pZ,{},pZ,pZ,{},{},p6,pZ,{},{},pZ,p6,pZ,p6,{ cC:=[false,true] },{ cC:=[false,false,true] }],[],[pZ,pZ,pZ,{},pZ,pZ,p6,p6,pZ,{},pZ,pZ,pZ,{},pZ,p6,{ cC:=[true,false,true] }],[],[pZ,pZ,pZ,pZ,pZ,pZ,pZ,pZ,{ mode:=3 },{ cC:=[true,false,true] },pZ,{ mode:=3 },p6,pZ]],il:=[(0,(p_ false [5,1,1,1,1,1,1,1,1,1,1,1,128]))] }
def YX:dw:={ ops:=[[pZ],[{},{ mode:=3 },pZ,pZ,{},pZ,pZ,{ cC:=[true,false,true] }],[{ mode:=3 },pZ],(p5 [0,1,1,1]),[{},pZ,{ mode:=3 },pZ],[],[],(p5 [0,0,2]),(p5 [1,1,1]),(p5 [0,1,1,1]),(p5 [0,0,2]),(p5 [1,1,1]),[{},{},p6,pZ,{},p6,pZ,{},pZ,{},p6,pZ,{},pZ,{},{},pZ,{},p6,p6,pZ,p6,pZ,p6,{ cC:=[false,true] }],(p5 [1,0,0,1,0,0,1,0,2,2,1,2,1,2,1,2,1]),[{},{},{},{ mode:=3 },pZ,{},pZ,pZ,pZ],[pZ,pZ,{ mode:=3 },pZ,{},pZ,pZ,pZ],[pZ,pZ,pZ,{},pZ,pZ,p6,p6,pZ,pZ,pZ,p6,pZ,pZ,pZ,p6,p6,pZ,{ mode:=3 },p6,pZ]],il:=[(0,(p_ false [2,1,2,4,107])),(2,(p_ false [2,1,2,5,106]))] }
def Y1:dw:={ bad:=true,ops:=[[pZ],[{},{ mode:=3 },pZ,pZ,{},pZ,pZ,{ cC:=[true,false,true] }],[{ mode:=3 },pZ],[{},pZ,pZ,{},pZ,p6,{},{ cC:=[false,true] }],[pZ,{ mode:=3 },pZ],[{},pZ,{},pZ,pZ,p6,pZ,{},pZ,{},pZ,pZ,p6,pZ,{},pZ,pZ,{},{},{ cC:=[false,true] },{ cC:=[false,true] },pZ],[{},{},p6,pZ,{},{},pZ,pZ,p6,pZ,{},pZ,pZ,pZ,{},p6,p6,{},pZ,pZ,pZ,pZ,p6,p6,p6,p6,{ cC:=[true,false,true] },pZ],[{},{},{ mode:=3 },pZ,{},pZ,pZ,pZ],[{},{ mode:=3 },pZ,{},pZ,pZ,pZ],[pZ,pZ,{ mode:=3 },pZ,{},pZ,pZ,pZ],[pZ,pZ,pZ,pZ,pZ,{},p6,p6,pZ,pZ,pZ,p6,pZ,pZ,{},{ mode:=3 },{ mode:=3 },p6,pZ,pZ,pZ,p6,pZ,{},pZ,p6,pZ,pZ,pZ,pZ,p6,p6,pZ,{ mode:=3 },p6,pZ]] }
def Tk:dw:={ ops:=[[],[{ mode:=3 },{ mode:=3 },{ mode:=3 },{},{},{},{ cC:=[false,true] },{ cC:=[false,true] },{ cC:=[false,true] }],[{},{},{ mode:=3 },{ mode:=3 },pZ,{},{},{},pZ,pZ,pZ],[{},{},{ mode:=3 },{ mode:=3 },pZ,{},{},{},pZ,pZ,pZ],[{},{},{ mode:=3 },{ mode:=3 },pZ,{},{},pZ,pZ],[{},{},{ mode:=3 },{ mode:=3 },pZ,{},{},pZ,pZ],[{},{ mode:=3 },pZ,{},pZ,pZ,pZ],[{},{ mode:=3 },pZ,{},pZ,pZ,pZ],[{},{ mode:=3 },pZ,{},pZ,pZ,pZ],[{},{ mode:=3 },pZ,{},pZ,pZ,pZ],[{},{},{ mode:=3 },{ mode:=3 },pZ,{ mode:=3 },{ mode:=3 },pZ,{},{},pZ,pZ],[{},{},{ mode:=3 },{ mode:=3 },pZ,{},{},pZ,pZ],[pZ,{},{ mode:=3 },{ mode:=3 },pZ,{},{},pZ,pZ],[pZ,{},{ mode:=3 },{ mode:=3 },pZ,{},{},pZ,pZ],[pZ,pZ,pZ,pZ,pZ,p6,pZ,pZ,pZ,p6,pZ,pZ,pZ,p6,pZ,pZ,pZ,p6,pZ,pZ,pZ,p6,pZ,pZ,pZ,p6,pZ,pZ,pZ,p6,pZ,pZ,pZ,p6,pZ,pZ,pZ,p6,pZ,pZ,pZ,p6,pZ,pZ,pZ,p6,pZ,pZ,pZ,p6,pZ,pZ,{},{ mode:=3 },{ mode:=3 },p6,pZ,pZ,pZ,p6,pZ,pZ,pZ,p6,pZ,pZ,pZ,p6,pZ,pZ,pZ,p6,pZ,pZ,pZ,p6,pZ,pZ,pZ,p6,pZ,pZ,pZ,p6,pZ,pZ,pZ,p6,pZ,pZ,pZ,p6,pZ,pZ,pZ,p6,pZ,pZ,pZ,p6,pZ,pZ,{ mode:=3 },pZ,p6,pZ,{ mode:=3 },p6,pZ]] }
def Sy:dw:={ ops:=[[pZ],(p5 [1,1,1,1,1])] }
def SB:dw:={ ops:=[[],[{ mode:=3 },{ mode:=3 },{ mode:=3 },{},{},{},{ cC:=[false,true] },{ cC:=[false,true] },{ cC:=[false,true] }],[{},{},{ mode:=3 },{ mode:=3 },pZ,{},{},{},pZ,pZ,pZ],[{},{},{ mode:=3 },{ mode:=3 },pZ,{},{},{},pZ,pZ,pZ],[{},{},{ mode:=3 },{ mode:=3 },pZ,{},{},pZ,pZ],[pZ,{},{ mode:=3 },{ mode:=3 },pZ,{},{},pZ,pZ],[{},{ mode:=3 },pZ,{},pZ,pZ,pZ],[{},{ mode:=3 },pZ,{},pZ,pZ,pZ],[{},{ mode:=3 },pZ,{},pZ,pZ,pZ],[{},{},{ mode:=3 },{ mode:=3 },pZ,{ mode:=3 },{ mode:=3 },pZ,{},{},pZ,pZ],[{},{},{ mode:=3 },{ mode:=3 },pZ,{ mode:=3 },{ mode:=3 },pZ,{},{},pZ,pZ],[{},{},{ mode:=3 },{ mode:=3 },pZ,{ mode:=3 },{ mode:=3 },pZ,{},{},pZ,pZ],[pZ,{},{ mode:=3 },{ mode:=3 },pZ,{},{},pZ,pZ],[{},{},{ mode:=3 },{ mode:=3 },pZ,{},{},pZ,pZ],[{},{ mode:=3 },pZ,{},pZ,pZ,pZ],[pZ,pZ,pZ,pZ,pZ,{ cC:=[true,false,true] },pZ,pZ,pZ,{ cC:=[true,false,true] },pZ,pZ,pZ,{ cC:=[true,false,true] },pZ,pZ,pZ,{ cC:=[true,false,true] },pZ,pZ,pZ,{ cC:=[true,false,true] },pZ,pZ,pZ,{ cC:=[true,false,true] },pZ,pZ,pZ,{ cC:=[true,false,true] },pZ,pZ,pZ,{ cC:=[true,false,true] },pZ,pZ,pZ,{ cC:=[true,false,true] },pZ,pZ,pZ,{ cC:=[true,false,true] },pZ,pZ,pZ,{ cC:=[true,false,true] },pZ,pZ,pZ,{ cC:=[true,false,true] }],[],[pZ,{},{ mode:=3 },pZ,{ mode:=3 },pZ,{},{},pZ,pZ],[pZ,pZ,pZ,pZ,pZ,p6,pZ,pZ,pZ,p6,pZ,pZ,pZ,p6,pZ,pZ,{},{ mode:=3 },{ mode:=3 },p6,pZ,pZ,pZ,p6,pZ,pZ,pZ,p6,pZ,pZ,pZ,p6,pZ,pZ,pZ,p6,pZ,pZ,pZ,p6,pZ,pZ,{},{ mode:=3 },{ mode:=3 },p6,pZ]] }
def SC:dw:={ ops:=[[pZ],[{},{},pZ,{ mode:=3 },pZ,{},pZ,pZ,pZ],(p5 [0,1,1]),(p5 [1,0,0,1]),[{},pZ,pZ,pZ,pZ,pZ,{},pZ,{ mode:=3 },pZ,pZ],[],[pZ,pZ,pZ,{ mode:=3 },{},{ cC:=[false,true] }],(p5 [0,1,0,1,1,1])] }
def SD:dw:={ ops:=[[pZ],[{},{},{ mode:=3 },pZ],[pZ,pZ,{ mode:=3 },{},{},pZ],[{},{},pZ,pZ,p6,pZ,{},{},pZ,pZ,p6,{ cC:=[true,false,true] }],[],[{},{},{},{ mode:=3 },{},{},{},{ mode:=3 },pZ,pZ]] }
def SE:dw:={ ops:=[[pZ],[pZ,{},pZ,{ mode:=3 },pZ,{},pZ,pZ,pZ],[{},pZ],(p5 [1,0,1]),[pZ,pZ,{ mode:=3 },pZ]] }
def SF:dw:={ ops:=[[pZ],[{},{},{ mode:=3 },pZ],[pZ,pZ,{ mode:=3 },{},pZ],[pZ,pZ,{ mode:=3 },pZ]] }
def PS:dw:={ ops:=[[pZ],[{},pZ,pZ,pZ,{ mode:=3 },pZ,pZ,{},pZ,pZ,pZ,pZ,{ cC:=[true,false,true] },pZ],[],[{},pZ,{ mode:=3 },pZ,{},pZ,pZ,{},pZ,pZ,p6,{ mode:=3 },pZ,{ cC:=[true,false,true] },pZ,{},pZ,pZ,pZ,pZ,pZ,p6,{ cC:=[true,false,true] },pZ],[],[]] }
def N5:dw:={ ops:=[[pZ],(p5 [0,1,1,1]),(p5 [0,1,1,0,1,2,1,0,1,2]),[],[],(p5 [0,0,2]),(p5 [1,1,1]),[{},pZ,{},p6,pZ,{ mode:=3 },pZ],[],[{},pZ,pZ,pZ,pZ,{},pZ,pZ,{},pZ,pZ,p6,{ cC:=[true,false,true] },pZ,pZ,pZ,pZ,pZ,{ cC:=[true,false,true] }],[],[]],il:=[(0,(p_ false [1,1,1,2,44]))] }
def YQ:dw:={ ops:=[[pZ],[{},{ mode:=3 },pZ,pZ,pZ,{ mode:=3 },pZ,p6,pZ]] }
def YR:dw:={ ops:=[[],[],[],(p5 [0,0,2]),(p5 [1,1,1]),(p5 [1,0,1,2,1]),[],(p5 [0,1,1]),(p5 [1,1,1]),[],(p5 [0,1,1]),(p5 [0,0,0,1,2,2,1,1,0,1,2,1]),(p5 [1,0,0,2,1,1,2,1]),(p5 [0,0,0,2,2,0,0,1,2,2,1]),[pZ,pZ]],il:=[(0,(p_ false [0,2,3,3,48])),(2,(p_ false [1,1,3,2,1,1,47]))] }
def Ju:dw:={ ops:=[[pZ],[pZ,{ mode:=3 },pZ,{},pZ,{},{ cC:=[false,true] },pZ],[{},pZ],(p5 [1,0,1]),[],[{},{ mode:=3 }],[pZ],[pZ,pZ,{ mode:=3 },pZ],(p5 [0,1,2]),[pZ,pZ]] }
def SG:dw:={ ops:=[[pZ],[pZ,pZ,{ mode:=3 },pZ,{},pZ,pZ,pZ],(p5 [1,1,1,1,1])] }
def N6:dw:={ ops:=[[{ cC:=[true],mode:=1 }],[pZ,{},pZ,{ cC:=[false,true,true],mode:=8 },pZ,{},pZ,pZ,pZ],[{},pZ],(p5 [1,0,1]),[{},{},{ cC:=[false,true,true],mode:=1 },pZ,pZ,{ cC:=[false,true,true],mode:=1 },p6,{ cC:=[false,true],mode:=1 },{ cC:=[true],mode:=1 }],[{},{ cC:=[false,true],mode:=1 }],[{},pZ,{ cC:=[false,true] },pZ],(p5 [0,1,2]),[pZ,pZ]] }
def SH:dw:={ ops:=[[{ cC:=[true],mode:=1 }],[{},{},pZ,{ mode:=2 },pZ,{},pZ,pZ,pZ],[{},pZ],(p5 [1,0,1]),[],[{},{},pZ,pZ,pZ,pZ,{ mode:=2 },pZ,pZ,pZ,p6],[],[],[{},pZ,{},{ cC:=[false,true] }],[pZ,{},pZ,pZ,pZ,{},pZ,pZ,{ mode:=3 },pZ,pZ,{},pZ,{ mode:=3 },{ cC:=[true,false,true] }],[],[{},pZ,pZ,pZ,pZ,{},pZ,{},pZ,{},{ cC:=[true],mode:=13 },pZ,p6,{ cC:=[true,true],mode:=13 },pZ],[pZ,pZ],[pZ,pZ,{ mode:=6 },pZ],[],(p5 [1,1,1])],il:=[(0,(p_ false [1,3,4,1,1,1,22,3,38]))] }
def PT:dw:={ ops:=[[pZ],[{},{},{ mode:=3 },pZ],[pZ,pZ,{ mode:=3 },{},pZ],[],(p5 [0,0,1,2]),(p5 [1,1,1]),[{},{},p6,pZ,{},{ cC:=[false,true] }],[{},pZ,pZ,pZ,{},pZ,{},pZ,pZ,p6,{ cC:=[false,false,true] },pZ,{},pZ,pZ,{},pZ,{},{},pZ,p6,pZ,pZ,p6,{ cC:=[false,true] },{ cC:=[false,false,true] },pZ,{},pZ,{ mode:=3 },pZ,{ cC:=[false,false,true] }],[],[pZ,{},{ mode:=3 },pZ,{ mode:=3 },pZ],[],(p5 [1,1,1])],il:=[(0,(p_ false [1,3,4,1,58]))] }
def Jv:dw:={ ops:=[[{ cC:=[true],mode:=1 }],[pZ,{ cC:=[false,true],mode:=8 },pZ,{},pZ,{},{ cC:=[false,true] },pZ],[{},pZ],(p5 [1,0,1]),[],[{},{ cC:=[false,true],mode:=9 }],[pZ],[],[],(p5 [0,0,1,1,1]),[{},{ cC:=[false,true] },pZ,pZ],[{},{},{},pZ,{ cC:=[false,true] },{ cC:=[false,true,true,true],mode:=1 },pZ,{},pZ,pZ,pZ],[{},{},{},pZ,pZ,pZ,{ cC:=[false,true,true,true,true],mode:=1 },pZ,{},pZ,pZ,pZ],(p5 [1,1,1,2]),[pZ,{ cC:=[false,true] },pZ],[pZ,pZ],(p5 [0,0,2]),[],[],[pZ],[],(p5 [0,0,1,1]),[pZ,pZ],[{},{},pZ,pZ,pZ,{ cC:=[true,true,true] },pZ,pZ,p6,pZ],[pZ,pZ],[pZ,pZ]],il:=[(2,(p_ false [4,1,1,2,20,3,55])),(4,(p_ false [14,1,53,2,16]))] }
def PU:dw:={ ops:=[[],[],(p5 [0,0,1,2]),(p5 [1,1,1]),(p5 [0,0,2,1,0,2]),[],[]],il:=[(0,(p_ false [0,2,3,1,12]))] }
def PV:dw:={ ops:=[[],(p5 [0,1,0,1,2]),[],[],(p5 [0,0,1,2]),(p5 [1,1,1]),(p5 [0,0,2,1,0,0,2,1,2]),[],[]],il:=[(0,(p_ false [0,2,3,1,20]))] }
def SI:dw:={ ops:=[[],[pZ,pZ]] }
def SJ:dw:={ ops:=[[],[{},{ mode:=3 },{ cC:=[false,true] }]] }
def SL:dw:={ ops:=[[],[{},{ mode:=3 },{ cC:=[false,true] }]] }
def SM:dw:={ ops:=[[],[{},{ mode:=3 },{ cC:=[false,true] }]] }
def SN:dw:={ ops:=[[pZ],[{},{ mode:=3 },pZ,{},pZ,pZ,pZ],[{},pZ],(p5 [1,0,1]),[pZ,pZ,{ mode:=3 },{},pZ,pZ,pZ]] }
def SP:dw:={ ops:=[[pZ],[pZ,{ mode:=3 },pZ,{},pZ,pZ,pZ],[{},pZ],(p5 [1,0,1]),[{},pZ,{},{ cC:=[false,true] }],[pZ,{ mode:=3 },{ mode:=3 },pZ],(p5 [1,1,0,1])] }
def SQ:dw:={ ops:=[[],[pZ,pZ]] }
def SR:dw:={ ops:=[[],[pZ,pZ,pZ,p6,p6,{ cC:=[false,true] }]] }
def J4:dw:={ ops:=[[pZ],[{},{ mode:=3 },pZ],[{},pZ],(p5 [1,0,1]),[pZ],[],(p5 [0,1,1]),[{},{ mode:=3 },{ mode:=3 },pZ],[pZ],[],(p5 [0,0,1,1,1]),(p5 [1,1,2]),[],[pZ,pZ],(p5 [1,1,0,1,1,2]),[],[pZ,pZ],(p5 [1,0,2,1,1])],il:=[(0,(p_ false [2,1,14,3,28])),(2,(p_ false [2,1,5,1,8,3,6,3,19]))] }
def SS:dw:={ ops:=[[pZ,pZ],[pZ,p6,{ mode:=6 },pZ,pZ]] }
def SU:dw:={ ops:=[[],[],[{},pZ],[],[],[{},pZ],[{},{},{},{ mode:=3 },{},{ cC:=[false,true] }],[pZ,{},pZ,pZ,pZ,{},p6,p6,{ cC:=[false,true] },p6],[pZ,pZ],[pZ,{ cC:=[false,true] }]],il:=[(0,(p_ false [0,3,3,2,3,1,17]))] }
def PW:dw:={ ops:=[[pZ],[{},{ mode:=3 },pZ],[pZ,{ mode:=3 },pZ],(p5 [0,1,0,1,1,2]),[],[],(p5 [0,0,1,2]),(p5 [1,1,1]),[{},{},p6,pZ,pZ,pZ,{},{},p6,pZ,{},pZ,pZ,p6,{ cC:=[false,false,true] },pZ,{},{},p6,{},{},p6,pZ,{ mode:=3 },{ cC:=[false,false,true] }],[],[]],il:=[(0,(p_ false [1,2,2,1,42]))] }
def PX:dw:={ ops:=[[pZ],[],[],(p5 [0,0,1,2]),(p5 [1,1,1]),(p5 [0,1,0,2]),[{},pZ,{},{},p6,pZ,p6,pZ,{},{ cC:=[false,true] }],[pZ,{},{},pZ,{ mode:=3 },{},pZ,{},pZ,{},p6,p6,p6,p6,pZ],[pZ,pZ]],il:=[(0,(p_ false [1,4,4,2,34]))] }
def SV:dw:={ ops:=[[],[],(p5 [0,1,1,1,1,1,0,1,1,1,1,1,2]),[],(p5 [0,1,1]),[{},{},pZ,{ mode:=3 }],[],[{},pZ],[pZ,{},pZ,pZ,{ cC:=[true,true,true] },pZ],[pZ,pZ],[pZ,pZ],[pZ,pZ]],il:=[(0,(p_ false [0,2,3,1,16,3,18])),(2,(p_ false [0,2,3,1,16,3,6,2,10]))] }
def PY:dw:={ ops:=[[pZ],[],(p5 [0,1,1,1]),(p5 [0,0,1,1,2]),(p5 [1,1,1]),[{},{},{},{ mode:=3 },{},{},{},{ mode:=3 },pZ,pZ],[pZ,{},pZ,pZ,{},pZ,pZ,{ cC:=[true,true,true,true,true] },pZ],[pZ,pZ]],il:=[(0,(p_ false [1,2,2,2,29]))] }
def SW:dw:={ ops:=[[],[pZ,pZ,{ mode:=6 },pZ,pZ]] }
def SX:dw:={ ops:=[[pZ],[{},pZ,pZ,{ mode:=3 },pZ,pZ,pZ,pZ,pZ,{ mode:=3 },pZ,{ cC:=[true,false,true] },pZ]] }
def SY:dw:={ ops:=[[pZ],(p5 [0,1,1,1,0,1,1,2,1,0,1,1,2,1,1,1,1,2,1])] }
def SZ:dw:={ ops:=[[pZ],[pZ,pZ]] }
def S1:dw:={ ops:=[[],[],[],[],(p5 [0,1,1]),(p5 [1,1,1,2,1]),[{},pZ],[{},pZ],[pZ,pZ],(p5 [1,0,1]),[pZ],[],(p5 [0,1,1]),(p5 [1,1,2,1]),[pZ,pZ],[pZ,pZ]],il:=[(0,(p_ false [0,1,2,1,5,3,24])),(2,(p_ false [6,1,18,3,8]))] }
def KA:dw:={ ops:=[[],[{},{},{},{ cC:=[false,true,true,true],mode:=1 },pZ,{},pZ,pZ,pZ],[pZ],[],[],[{},pZ],[],[{},pZ],(p5 [0,1,0,2]),[{},{},{},{},pZ,{ cC:=[false,true,true,true,true],mode:=1 },pZ,{},pZ,pZ,pZ],[pZ],[pZ,pZ],[{},{},{ cC:=[false,true,true],mode:=9 },pZ],(p5 [1,1,1,2,1]),[pZ,pZ],[],[pZ],[],(p5 [0,1,1]),(p5 [1,0,0,2,1,0,1,1,1,1,0,0,1,1,0,2,2,1,2,1,2,1,2,1]),[pZ,pZ],[pZ,pZ]],il:=[(0,(p_ false [0,3,6,1,15,2,57])),(2,(p_ false [0,2,11,1,39,3,28]))] }
def S2:dw:={ ops:=[(p5 [0,1,1]),[pZ,{},pZ,pZ,{ mode:=3 },pZ,{ cC:=[false,true,false,true,true,true],mode:=1 }]] }
def S3:dw:={ ops:=[[pZ,pZ],(p5 [1,1,1,1,2,1])] }
def S4:dw:={ ops:=[[],[{},pZ],[],[{},pZ,p6,{ cC:=[true],mode:=1 }]] }
def PZ:dw:={ two:=[(1,[0,1,2,7,3,4,5,6,8],3,7)],ops:=[[{ cC:=[true],mode:=1 }],[{},{},{ cC:=[true],mode:=3 },{ cC:=[true,true],mode:=2 },{},{ cC:=[true],mode:=3 },p6,{},{ cC:=[false,true] }],[],(p5 [0,0,1,2]),(p5 [1,1,1]),(p5 [0,1,0,0,2,1,1,0,0,2,1,1,2,2]),[pZ,{ cC:=[false,true] }]],il:=[(0,(p_ false [1,1,2,3,27]))] }
def LB:dw:={ ops:=[[],[{},{},pZ,{},{ cC:=[false,true,true,true,true],mode:=9 },{},{ cC:=[false,true] }],(p5 [0,1,1,1,1,1,0,1,1,1,1,1,2,1]),(p5 [0,1,1]),[{},{},p6,pZ,pZ,pZ,{},pZ,{},pZ,pZ,pZ,pZ,pZ,pZ,pZ,p6,p6,pZ,{ cC:=[false,true] },{ cC:=[false,false,true] },{},pZ],[{},pZ,pZ,pZ,{},{},pZ,pZ,{ cC:=[false,true,true],mode:=9 },p6,pZ,{},{},pZ,pZ],[pZ,pZ],[{},{},{},pZ,pZ,{ cC:=[false,true,true],mode:=9 },{ mode:=2 },pZ],[{},pZ,pZ,pZ,{},{},pZ,pZ,{ cC:=[false,true,true],mode:=9 },{},{ cC:=[true,true,true] }],[{},pZ,pZ,{},pZ,pZ,p6,{},{ cC:=[false,true] }],[pZ],[{},pZ,pZ,{},pZ,pZ,pZ,pZ,pZ,pZ,pZ,p6,p6,pZ,{ cC:=[false,true] }],[pZ,pZ,p6,pZ,{},pZ,{},{ cC:=[false,true] },pZ],[pZ,pZ],[],(p5 [1,1,1,1,2,1,1,2,1,1])] }
def P0:dw:={ ops:=[[],[pZ,pZ,p6,pZ,{},{ cC:=[false,true] }],[],(p5 [0,1,0,1,2]),(p5 [1,1,1]),[{},{ cC:=[true],mode:=1 },{},{},p6,pZ,{},{},pZ,p6,pZ,p6,pZ,p6,{},p6],[pZ,{ cC:=[false,true] }]],il:=[(0,(p_ false [2,1,3,3,27]))] }
def S5:dw:={ ops:=[[],(p5 [1,0,1])] }
def P1:dw:={ ops:=[[],(p5 [0,1,1,1]),[pZ,pZ],[],(p5 [0,1,1]),[{},{},{},{ mode:=6 }],[pZ,pZ],[pZ,pZ],[pZ,pZ]],il:=[(0,(p_ false [1,1,3,1,6,3,10]))] }
def S6:dw:={ ops:=[[],[{},pZ,{ mode:=3 },{},pZ,{ mode:=3 },p6,pZ]] }
def S7:dw:={ ops:=[[],(p5 [1,0,1]),[{ cC:=[true],mode:=1 },{ cC:=[false,true],mode:=1 }],[{ cC:=[true],mode:=2 },pZ]] }
def S8:dw:={ ops:=[[pZ],[pZ,pZ]] }
def S9:dw:={ ops:=[[],[pZ,pZ,{ mode:=6 },pZ,pZ]] }
def S_:dw:={ ops:=[[],[{},pZ,p6,pZ,pZ,pZ,p6,{ cC:=[true,false,true] },pZ]] }
def P2:dw:={ ops:=[[],[],[pZ],[],(p5 [0,0,1,1,1]),[{},pZ,{},p6,pZ,{},{},{ mode:=3 },{ cC:=[true,false,true] }],[{},pZ,pZ,pZ,pZ,pZ,p6,pZ,{},{ cC:=[false,true] }],[{},pZ,{},{},{ mode:=3 },{},pZ,p6,p6,{},p6],[{},pZ,{},pZ,{ mode:=3 },pZ,pZ,p6,p6,{},p6],[pZ,pZ],[pZ,{ cC:=[false,true] }]],il:=[(0,(p_ false [0,1,1,2,4,2,3,3,43]))] }
def Ta:dw:={ ops:=[[],(p5 [1,1,1,2,1])] }
def P3:dw:={ ops:=[[],[{},pZ],[],[{},pZ],[{},{},{},p6,pZ,{ mode:=6 }],[pZ,pZ],[pZ,pZ],[]],il:=[(0,(p_ false [0,2,5,2,10]))] }
def Tb:dw:={ ops:=[[pZ],[],[],[{ cC:=[true,true,true] },{ cC:=[false,true] }],[pZ,{ cC:=[true],mode:=1 }]] }
def J5:dw:={ ops:=[[],(p5 [0,1,0,1,1,1,1,1,2]),[pZ,pZ,{ cC:=[true,true],mode:=1 },pZ],(p5 [1,1,1,1,1,1]),[],[{},pZ],[{},{ cC:=[false,true] },pZ,pZ],[{},{ cC:=[false,true] },pZ],[{},{},{},pZ,{},pZ,{ cC:=[true,true,true] },{},pZ,p6,{ cC:=[true,true],mode:=1 },pZ],[pZ,{ cC:=[false,true] },pZ],[pZ,pZ],[],[pZ,pZ],[]],il:=[(0,(p_ false [0,1,2,2,21,2,24]))] }
def YW:dw:={ ops:=[[],[{},pZ],[{},pZ],(p5 [1,0,1,0,1,2,2,1]),[{},pZ],(p5 [0,0,1,2,1,2,1,1,2,1]),[pZ,pZ]] }
def Tc:dw:={ ops:=[[],(p5 [1,1,1,1,1,1,1,1,2,1])] }
def Td:dw:={ ops:=[[],[],(p5 [0,0,2,1]),[{},pZ],[pZ,pZ,pZ,pZ,{ cC:=[false,true,true,true,true],mode:=1 }],[{},pZ],[pZ,pZ,pZ,pZ,{ cC:=[false,true,true,true,true],mode:=1 }],[{},pZ],[{},{},{},{},{ cC:=[false,true,true,true,true],mode:=1 }],(p5 [1,1,1]),[{},{},{},{},{ cC:=[false,true,true,true,true],mode:=1 },pZ,{},pZ,pZ,pZ],[{},pZ],[{},{},{},{},{ cC:=[false,true,true,true,true],mode:=1 }],(p5 [0,1,1,0,2,2,1]),[],(p5 [0,1,0,2,1,1,1,2]),[{},{},{},{},{ cC:=[false,true,true,true,true],mode:=1 }],[{},pZ,pZ,{},{},{},pZ,p6,pZ,{},{},p6,pZ,{ mode:=6 },pZ,pZ,{ cC:=[false,true] }],[{},pZ,{},pZ,{},{ cC:=[false,true,true,true,true,true],mode:=1 },pZ],[pZ,pZ],[{},{},{},pZ,{},{ cC:=[false,true,true,true,true,true],mode:=1 },pZ,{},pZ,pZ,pZ],[pZ,pZ],(p5 [0,0,2,0,0,2,1,1]),(p5 [1,1,1]),(p5 [0,0,2]),(p5 [1,1,2,1]),[{},pZ,{},{},{},{ cC:=[false,true,true,true,true,true],mode:=1 }],(p5 [1,1,1]),(p5 [1,1,2,1]),[{},{},pZ,pZ,{},{},{ cC:=[false,true,true,true,true,true],mode:=1 }],[pZ,pZ]],il:=[(0,(p_ false [0,5,5,2,136]))] }
def YY:dw:={ ops:=[[],[pZ,pZ,{ mode:=3 },pZ],[pZ,{ mode:=3 },pZ]] }
def KB:dw:={ ops:=[[],[{},pZ],[],[{},pZ],(p5 [1,1,1]),[],[{},pZ],(p5 [1,1,1]),[{},{},p6,{},{},p6,p6,{},{ cC:=[false,true] }],(p5 [0,1,1,1,1,1,0,1,1,1,1,1,2]),[{},{},{},{},pZ,pZ,pZ,pZ,pZ,p6,p6,p6,pZ,{ cC:=[false,true] }],[{},pZ,{},{},p6,{ cC:=[true,true,true] }],[{},pZ],[{},{},pZ,pZ,pZ,pZ,pZ,pZ,{ mode:=3 },pZ],[],(p5 [0,1,1,1,1]),[],[{},pZ,{},{ cC:=[false,true] }],(p5 [0,1,0,1,0,1,1,1,1,1,2,2,1]),[pZ,{},pZ,pZ,{},pZ,pZ,{ cC:=[true,true,true] },p6,p6,pZ],[pZ,pZ],[{},pZ],[{},pZ],[{},pZ,{},{ cC:=[false,true] }],[{},pZ,{},{},pZ,pZ,{ mode:=3 },pZ],(p5 [0,1,2]),[pZ,pZ]],il:=[(0,(p_ false [0,2,3,2,116])),(2,(p_ false [0,2,3,3,115])),(4,(p_ false [0,1,4,1,3,2,66,3,43])),(6,(p_ false [5,1,4,1,96,1,15]))] }
def Jw:dw:={ ops:=[[pZ],[pZ],[pZ],[{ mode:=1 },pZ,pZ,p6,p6],[{ cC:=[true],mode:=1 },pZ]] }
def Te:dw:={ ops:=[[],(p5 [1,0,1])] }
def Tf:dw:={ ops:=[(p5 [0,1,1]),[pZ,{},pZ,pZ,{ mode:=3 },{ cC:=[false,true,false,true,true],mode:=1 }]] }
def Tg:dw:={ ops:=[[pZ],[],(p5 [0,1,1]),[{},pZ,{ cC:=[true,true],mode:=1 },pZ],[pZ,pZ]],il:=[(0,(p_ false [0,1,4,3,8]))] }
def P4:dw:={ ops:=[[],[{},pZ],[],[{},pZ],[{},{},{},p6,pZ,{ mode:=6 }],[pZ,pZ],[pZ,pZ],[]],il:=[(0,(p_ false [0,2,5,2,10]))] }
def Th:dw:={ ops:=[[],[pZ,pZ,{ mode:=3 },pZ,pZ]] }
def Ti:dw:={ ops:=[(p5 [0,1,1]),(p5 [0,0,2]),(p5 [1,1,1]),[{},pZ],[{},{},p6,pZ,{},{},{},p6,pZ,{},{},pZ,p6,pZ,{ mode:=6 },pZ,{ cC:=[false,true] }],(p5 [1,1,1]),(p5 [0,0,0,0,1,0,0,1,2,1,0,0,2,1,2,2,2,2])],il:=[(0,(p_ false [0,4,4,1,44])),(2,(p_ false [0,4,4,2,43]))] }
def YZ:dw:={ ops:=[[{},pZ],[],(p5 [1,1,2,1]),(p5 [0,1,1,1]),[{},pZ],(p5 [1,1,1]),[{},{},{},{},{},{ cC:=[false,true,true,true,true,true],mode:=1 }],(p5 [1,1,1]),[{},pZ],(p5 [1,1,1]),(p5 [0,0,0,0,0,2,0,0,0,2,2,1,0,0,2,1,2,2,2,2]),[{},{},{},{},{},{ cC:=[false,true,true,true,true,true],mode:=1 }]],il:=[(0,(p_ false [0,1,2,1,4,4,48])),(2,(p_ false [0,1,2,1,4,2,2,1,47]))] }
def Y2:dw:={ ops:=[(p5 [1,0,2,1]),[{},pZ],[{},pZ,{},{ cC:=[false,true] }],[{},{ mode:=3 },pZ],(p5 [0,0,1,1,2,1,1]),(p5 [0,0,0,1,1,2,1,2]),(p5 [1,1,1]),[{ mode:=1 },{},pZ,p6,pZ,pZ],(p5 [0,0,2]),(p5 [1,0,2,1]),(p5 [0,0,0,0,0,2,0,0,0,2,2,1,0,0,2,1,2,2,2,2])],il:=[(0,(p_ false [0,2,6,4,55]))] }
def Y3:dw:={ ops:=[[],(p5 [1,0,2,1]),[],(p5 [0,0,1,1,2,1]),(p5 [0,0,1,1,2,1]),(p5 [1,0,1,1,2,1]),[{},pZ],[pZ,pZ],[{},pZ,{},{ cC:=[false,true,true,false,true],mode:=1 },pZ],[{},pZ,{},{ cC:=[false,true,true,false,true],mode:=1 },pZ],[{},pZ,{},{ cC:=[false,true,true,false,true],mode:=1 },pZ],[pZ,pZ,pZ,pZ,pZ,{ cC:=[false,true,true,true,true,false,true],mode:=1 },pZ],[pZ],[pZ,pZ],[{},pZ],[pZ,pZ],[pZ,pZ],[pZ,pZ]] }
def Y4:dw:={ ops:=[[pZ,pZ],(p5 [1,1,1]),(p5 [0,0,2]),(p5 [0,0,0,0,0,0,2,1,0,0,2,1,2,2,2,2]),(p5 [1,1,1]),(p5 [1,1,1])],il:=[(0,(p_ false [0,1,7,2,24]))] }
def Y5:dw:={ ops:=[[],(p5 [0,1,1]),[],[{},pZ],(p5 [1,1,1]),[{},{},p6,pZ,{},{},{},p6,pZ,{},{},pZ,p6,pZ,{ mode:=6 },pZ,pZ,{ cC:=[false,true] }],(p5 [1,1,1]),(p5 [0,0,2]),[],(p5 [0,0,2,1]),[],(p5 [0,0,0,0,1,0,0,1,2,1,0,0,2,1,2,2,2,2]),(p5 [0,0,2,1]),(p5 [0,1,1]),[{},pZ],(p5 [1,1,1]),[{},{},{},p6,pZ,{},{},pZ,p6,pZ,{ mode:=6 },pZ,pZ],(p5 [0,0,0,0,1,0,0,1,2,1,0,0,2,1,2,2,2,2]),(p5 [0,0,2,1]),(p5 [0,1,1]),(p5 [0,0,2]),(p5 [1,1,1]),[{},{},{},p6,pZ,{},{},pZ,p6,pZ,{ mode:=6 },pZ,pZ],(p5 [0,0,0,0,1,0,0,1,2,1,0,0,2,1,2,2,2,2]),[]],il:=[(0,(p_ false [0,4,5,2,130])),(2,(p_ false [0,4,5,2,130])),(4,(p_ false [0,4,5,3,129])),(6,(p_ false [0,4,5,2,1,1,128]))] }
def Y6:dw:={ ops:=[[],(p5 [0,0,0,0,0,0,2,1,0,0,2,1,2,2,2,2]),(p5 [0,1,1,1,1,1]),[{},{},p6,pZ,{},{},{},p6,pZ,{},{},p6,pZ,{ mode:=6 },pZ,pZ,{ cC:=[false,true] }],(p5 [1,1,1]),[{},{},p6,pZ,{},{},{},p6,pZ,{},{},p6,pZ,{ mode:=6 },pZ,{ cC:=[false,true] }],(p5 [1,1,1]),(p5 [0,0,2]),(p5 [0,0,0,0,0,0,2,1,0,0,2,1,2,2,2,2]),(p5 [1,1,1]),(p5 [1,1,1]),[pZ,pZ]],il:=[(0,(p_ false [0,2,2,1,6,2,77])),(2,(p_ false [0,2,2,1,6,2,77])),(4,(p_ false [0,2,2,1,6,2,77]))] }
def Y7:dw:={ ops:=[[],(p5 [0,0,0,0,0,0,2,1,0,0,2,1,2,2,2,2]),(p5 [0,1,1,1,1,1]),[{},{},p6,pZ,{},{},{},p6,pZ,{},{},p6,pZ,{ mode:=6 },pZ,{ cC:=[false,true] }],(p5 [1,1,1]),[{},{},p6,pZ,{},{},{},p6,pZ,{},{},p6,pZ,{ mode:=6 },pZ,pZ,{ cC:=[false,true] }],(p5 [1,1,1]),(p5 [0,0,2]),(p5 [0,0,0,0,0,0,2,1,0,0,2,1,2,2,2,2]),[pZ,pZ],(p5 [0,0,0,0,0,0,2,1,0,0,2,1,2,2,2,2]),(p5 [1,1,1]),(p5 [1,1,1]),[{},{},p6,pZ,{},{},{},p6,pZ,{},{},p6,pZ,{ mode:=6 },pZ,{ cC:=[false,true] }],(p5 [1,1,1]),[{},{},p6,pZ,{},{},{},p6,pZ,{},{},p6,pZ,{ mode:=6 },pZ,pZ,{ cC:=[false,true] }],(p5 [1,1,1]),(p5 [0,0,2]),(p5 [0,0,0,0,0,0,2,1,0,0,2,1,2,2,2,2]),(p5 [1,1,1]),(p5 [1,1,1]),(p5 [0,0,0,0,0,0,2,1,0,0,2,1,2,2,2,2]),[pZ,pZ]],il:=[(0,(p_ false [0,2,2,1,7,2,164])),(2,(p_ false [0,2,2,1,7,2,164])),(4,(p_ false [0,2,2,1,7,2,164])),(6,(p_ false [0,2,2,1,7,2,164])),(8,(p_ false [0,2,2,1,7,2,164]))] }
def Y8:dw:={ ops:=[[],[{},pZ],(p5 [1,1,1]),[],[{},pZ],(p5 [1,1,1]),(p5 [1,1,1]),[pZ,pZ,pZ,{ cC:=[false,true] },pZ,p6,pZ]] }
def Y9:dw:={ ops:=[[],[{},pZ],(p5 [1,1,1]),[],[{},pZ],(p5 [1,1,1]),(p5 [1,1,1]),[{},pZ],(p5 [1,1,1]),(p5 [1,1,1]),[pZ,pZ,pZ,{ cC:=[false,true] },pZ,p6,pZ]] }
def Jx:dw:={ ops:=[[pZ],[pZ],[pZ],[{ mode:=1 },pZ,pZ,p6,{ cC:=[true,true],mode:=1 }],[{ cC:=[true],mode:=1 },pZ]] }
def Tj:dw:={ ops:=[[],[],(p5 [0,0,2,1]),[{},pZ],[pZ,pZ,pZ,{ cC:=[false,true,true,true],mode:=1 }],[{},pZ],[pZ,pZ,pZ,{ cC:=[false,true,true,true],mode:=1 }],[{},pZ],[{},{},{},{ cC:=[false,true,true,true],mode:=1 }],(p5 [1,1,1]),[{},{},{},{ cC:=[false,true,true,true],mode:=1 },pZ,{},pZ,pZ,pZ],[{},pZ],[{},{},{},{ cC:=[false,true,true,true],mode:=1 }],(p5 [0,1,1,0,2,2,1]),[],(p5 [0,1,0,2,1,1,1,2]),[{},{},{},{ cC:=[false,true,true,true],mode:=1 }],[{},pZ,pZ,{},{},pZ,p6,pZ,{},{},p6,pZ,{ mode:=3 },pZ,{ cC:=[false,true] }],[{},pZ,{},pZ,{ cC:=[false,true,true,true,true],mode:=1 },pZ],[pZ,pZ],[{},{},{},pZ,{ cC:=[false,true,true,true,true],mode:=1 },pZ,{},pZ,pZ,pZ],[pZ,pZ],(p5 [0,0,2,0,0,2,1,1]),(p5 [1,1,1]),(p5 [0,0,2]),(p5 [1,1,2,1]),[{},pZ,{},{},{ cC:=[false,true,true,true,true],mode:=1 }],(p5 [1,1,1]),(p5 [1,1,2,1]),[{},{},pZ,pZ,{},{ cC:=[false,true,true,true,true],mode:=1 }],[pZ,pZ]],il:=[(0,(p_ false [0,4,4,2,124]))] }
def P5:dw:={ ops:=[[],[{},pZ],[],[{},pZ],(p5 [0,0,0,2,1,2]),[pZ,pZ],[pZ,pZ],[]],il:=[(0,(p_ false [0,2,5,2,10]))] }
def Y_:dw:={ ops:=[[pZ,pZ],[{},{ cC:=[false,true] },pZ,pZ],(p5 [0,0,2]),[{},pZ,{},p6,pZ,{},{},{},{},p6,p6,pZ,{},{},{},p6,pZ,p6,pZ,{ mode:=6 },pZ,{ cC:=[false,true] }],(p5 [1,1,1]),[{},{},{},{},p6,p6,pZ,{},{},{},p6,p6,pZ,{ mode:=6 },pZ,pZ],(p5 [0,0,0,2,0,0,0,2,0,0,0,2,2,1,0,0,0,2,2,1,2,2,2,2]),[pZ,pZ]],il:=[(0,(p_ false [0,1,1,3,5,1,71]))] }
def Y':dw:={ ops:=[[],[pZ,pZ,{ mode:=3 },{ cC:=[false,true] },pZ]] }
def Za:dw:={ ops:=[[],(p5 [0,0,1,0,1,1,1,2,0,2]),(p5 [0,0,1,0,1,1,1,2,0,2]),(p5 [0,0,1,0,1,1,1,2,0,2]),(p5 [1,1,1,1])] }
def Zb:dw:={ ops:=[[],[pZ,{},pZ,{},pZ,pZ,pZ,pZ,{ cC:=[false,true,true,true,true,true,true],mode:=1 },pZ]] }
def Zc:dw:={ ops:=[[],[{},pZ,pZ,{},{},{ cC:=[false,true,true,true,true,true],mode:=1 },pZ,{},pZ,pZ,pZ],[{},pZ,pZ,{},{},{ cC:=[false,true,true,true,true,true],mode:=1 },pZ,{},pZ,pZ,pZ],[pZ,pZ,pZ,pZ,pZ,{ cC:=[false,true,true,true,true,true],mode:=1 },pZ,{},pZ,pZ,pZ],[pZ,pZ]] }
def Tl:dw:={ ops:=[(p5 [0,1,1]),(p5 [0,0,2]),(p5 [1,1,1]),[{},pZ],[{},{},p6,pZ,{},{},p6,pZ,{},{},pZ,p6,pZ,{ mode:=3 },{ cC:=[false,true] }],(p5 [1,1,1]),(p5 [0,0,0,0,1,0,0,1,2,1,0,0,2,1,2,2,2,2])],il:=[(0,(p_ false [0,3,3,1,42])),(2,(p_ false [0,3,3,2,41]))] }
def Zd:dw:={ ops:=[[{},pZ],[],(p5 [1,1,2,1]),(p5 [0,1,1,1]),[{},pZ],(p5 [1,1,1]),[{},{},{},{},{ cC:=[false,true,true,true,true],mode:=1 }],(p5 [1,1,1]),[{},pZ],(p5 [1,1,1]),(p5 [0,0,0,0,0,2,0,0,0,2,2,1,0,0,2,1,2,2,2,2]),[{},{},{},{},{ cC:=[false,true,true,true,true],mode:=1 }]],il:=[(0,(p_ false [0,1,5,4,46])),(2,(p_ false [0,1,5,2,2,1,45]))] }
def Ze:dw:={ ops:=[(p5 [1,0,2,1]),[{},pZ],[{},pZ,{},{ cC:=[false,true] }],[{},{ mode:=3 },pZ],(p5 [0,0,1,1,2,1,1]),(p5 [0,0,0,1,1,2,1,2]),(p5 [1,1,1]),[{ mode:=1 },{},pZ,p6,pZ,pZ],(p5 [0,0,2]),(p5 [1,0,2,1]),(p5 [0,0,0,0,0,2,0,0,0,2,2,1,0,0,2,1,2,2,2,2])],il:=[(0,(p_ false [0,2,4,4,55]))] }
def Zf:dw:={ ops:=[[],(p5 [1,0,2,1]),[],(p5 [0,0,1,1,2,1]),(p5 [0,0,1,1,2,1]),(p5 [1,0,1,1,2,1]),[{},pZ],[pZ,pZ],[{},pZ,{ cC:=[false,true,true],mode:=1 },pZ],[{},pZ,{ cC:=[false,true,true],mode:=1 },pZ],[{},pZ,{ cC:=[false,true,true],mode:=1 },pZ],[pZ,pZ,pZ,pZ,{ cC:=[false,true,true,true,true],mode:=1 },pZ],[pZ],[pZ,pZ],[{},pZ],[pZ,pZ],[pZ,pZ],[pZ,pZ]] }
def YH:dw:={ ops:=[[pZ,pZ],(p5 [1,1,1]),(p5 [0,0,2]),(p5 [0,0,0,0,0,0,2,1,0,0,2,1,2,2,2,2]),(p5 [1,1,1]),(p5 [1,1,1])],il:=[(0,(p_ false [0,1,5,2,24]))] }
def YI:dw:={ ops:=[[],(p5 [0,1,1]),[],[{},pZ],(p5 [1,1,1]),[{},{},p6,pZ,{},{},p6,pZ,{},{},pZ,p6,pZ,{ mode:=3 },pZ,{ cC:=[false,true] }],(p5 [1,1,1]),(p5 [0,0,2]),[],(p5 [0,0,2,1]),[],(p5 [0,0,0,0,1,0,0,1,2,1,0,0,2,1,2,2,2,2]),(p5 [0,0,2,1]),(p5 [0,1,1]),[{},pZ],(p5 [1,1,1]),[{},{},p6,pZ,{},{},pZ,p6,pZ,{ mode:=3 },pZ],(p5 [0,0,0,0,1,0,0,1,2,1,0,0,2,1,2,2,2,2]),(p5 [0,0,2,1]),(p5 [0,1,1]),(p5 [0,0,2]),(p5 [1,1,1]),[{},{},p6,pZ,{},{},pZ,p6,pZ,{ mode:=3 },pZ],(p5 [0,0,0,0,1,0,0,1,2,1,0,0,2,1,2,2,2,2]),[]],il:=[(0,(p_ false [0,3,4,2,124])),(2,(p_ false [0,3,4,2,124])),(4,(p_ false [0,3,4,3,123])),(6,(p_ false [0,3,4,2,1,1,122]))] }
def Sz:dw:={ ops:=[[],[{},{ mode:=3 },pZ,{},{ mode:=3 },pZ,p6,pZ,pZ,pZ,p6,{ cC:=[true,false,true] },pZ]] }
def YJ:dw:={ ops:=[[],(p5 [0,0,0,0,0,0,2,1,0,0,2,1,2,2,2,2]),(p5 [0,1,1,1,1,1]),[{},{},p6,pZ,{},{},p6,pZ,{},{},p6,pZ,{ mode:=3 },pZ,{ cC:=[false,true] }],(p5 [1,1,1]),[{},{},p6,pZ,{},{},p6,pZ,{},{},p6,pZ,{ mode:=3 },{ cC:=[false,true] }],(p5 [1,1,1]),(p5 [0,0,2]),(p5 [0,0,0,0,0,0,2,1,0,0,2,1,2,2,2,2]),(p5 [1,1,1]),(p5 [1,1,1]),[pZ,pZ]],il:=[(0,(p_ false [0,2,7,2,73])),(2,(p_ false [0,2,7,2,73])),(4,(p_ false [0,2,7,2,73]))] }
def YK:dw:={ ops:=[[],(p5 [0,0,0,0,0,0,2,1,0,0,2,1,2,2,2,2]),(p5 [0,1,1,1,1,1]),[{},{},p6,pZ,{},{},p6,pZ,{},{},p6,pZ,{ mode:=3 },{ cC:=[false,true] }],(p5 [1,1,1]),[{},{},p6,pZ,{},{},p6,pZ,{},{},p6,pZ,{ mode:=3 },pZ,{ cC:=[false,true] }],(p5 [1,1,1]),(p5 [0,0,2]),(p5 [0,0,0,0,0,0,2,1,0,0,2,1,2,2,2,2]),[pZ,pZ],(p5 [0,0,0,0,0,0,2,1,0,0,2,1,2,2,2,2]),(p5 [1,1,1]),(p5 [1,1,1]),[{},{},p6,pZ,{},{},p6,pZ,{},{},p6,pZ,{ mode:=3 },{ cC:=[false,true] }],(p5 [1,1,1]),[{},{},p6,pZ,{},{},p6,pZ,{},{},p6,pZ,{ mode:=3 },pZ,{ cC:=[false,true] }],(p5 [1,1,1]),(p5 [0,0,2]),(p5 [0,0,0,0,0,0,2,1,0,0,2,1,2,2,2,2]),(p5 [1,1,1]),(p5 [1,1,1]),(p5 [0,0,0,0,0,0,2,1,0,0,2,1,2,2,2,2]),[pZ,pZ]],il:=[(0,(p_ false [0,2,8,2,156])),(2,(p_ false [0,2,8,2,156])),(4,(p_ false [0,2,8,2,156])),(6,(p_ false [0,2,8,2,156])),(8,(p_ false [0,2,8,2,156]))] }
def YL:dw:={ ops:=[[],[pZ,{},{},p6,pZ,{},{},p6,pZ,{ mode:=6 },pZ],(p5 [1,0,1,1,1,2]),(p5 [1,1,1,1]),(p5 [1,1,1,1])] }
def YM:dw:={ ops:=[[pZ,pZ],[{},{ cC:=[false,true] },pZ,pZ],(p5 [0,0,2]),[{},pZ,{},p6,pZ,{},{},{},p6,p6,pZ,{},{},{},p6,pZ,p6,pZ,{ mode:=3 },{ cC:=[false,true] }],(p5 [1,1,1]),[{},{},{},p6,p6,pZ,{},{},{},p6,p6,pZ,{ mode:=3 },pZ],(p5 [0,0,0,2,0,0,0,2,0,0,0,2,2,1,0,0,0,2,2,1,2,2,2,2]),[pZ,pZ]],il:=[(0,(p_ false [0,1,1,2,4,1,67]))] }
def YN:dw:={ ops:=[[],[pZ,{},pZ,{},pZ,pZ,pZ,{ cC:=[false,true,true,true,true,true],mode:=1 },pZ]] }
def YO:dw:={ ops:=[[],[{},pZ,pZ,{},{ cC:=[false,true,true,true,true],mode:=1 },pZ,{},pZ,pZ,pZ],[{},pZ,pZ,{},{ cC:=[false,true,true,true,true],mode:=1 },pZ,{},pZ,pZ,pZ],[pZ,pZ,pZ,pZ,{ cC:=[false,true,true,true,true],mode:=1 },pZ,{},pZ,pZ,pZ],[pZ,pZ]] }
def SA:dw:={ ops:=[[],(p5 [0,1,2,1])] }
def YP:dw:={ ops:=[[],[{},{},p6,pZ,{},{},p6,pZ,{ mode:=3 }],(p5 [1,0,1,1,1,2]),(p5 [1,1,1,1]),(p5 [1,1,1,1])] }
def Zg:List dw:=[{},{},YS,SK,YT,YU,YV,YX,Y1,Tk,Sy,SB,SC,SD,SE,SF,PS,N5,YQ,YR,Ju,SG,N6,SH,PT,Jv,PU,PV,SI,SJ,SL,SM,SN,SP,SQ,SR,J4,SS,SU,PW,PX,SV,PY,SW,SX,SY,SZ,S1,KA,S2,S3,S4,PZ,LB,P0,S5,P1,S6,S7,S8,S9,S_,P2,Ta,P3,Tb,J5,YW,Tc,Td,YY,KB,Jw,Te,Tf,Tg,P4,Th,Ti,YZ,Y2,Y3,Y4,Y5,Y6,Y7,Y8,Y9,Jx,Tj,P5,Y_,Y',Za,Zb,Zc,Tl,Zd,Ze,Zf,YH,YI,Sz,YJ,YK,YL,YM,YN,YO,SA,YP,{},{},{},{},{},{},{},{},{},{},{},{},{},{},{},{}]
def jD (k:FuncId):dw:=Zg.getD k {}
end Go.Proofs.Ytkoioidpbbbaiaa.Ab


namespace Go.Proofs.Ytkoioidpbbbaiaa.Ab
open Go
end Go.Proofs.Ytkoioidpbbbaiaa.Ab


namespace Go.Proofs.Ytkoioidpbbbaiaa.Ab
open Go
end Go.Proofs.Ytkoioidpbbbaiaa.Ab


namespace Go.Proofs.Ytkoioidpbbbaiaa.Ab
open Go
theorem eG:Go.Proofs.Try.prog.follows .mixedOrders=true:=by kernel_rfl
abbrev qt (k:FuncId) (args:List I) (v:I):Prop:=nn Go.Proofs.Try.prog k args v
abbrev h0 (n:Int):I:=.int .i64 n
abbrev Hf:I:=.a0
abbrev B (b:Bool):I:=.bool b
def oX (l:List Int):I:=.av (l.map h0) l.length .shared
def jx (l:List (List Int)):I:=.av (l.map oX) l.length .shared
theorem Vw (d:Nat) (l:List Int):(l.map h0).all (cr (d+1))=true:=by
 rw [sk];intro u hu;obtain ⟨x,_,rfl⟩:=sA.1 hu;rfl
theorem Vv (d:Nat) (l:List Int):cr (d+2) (oX l)=true:=Vw d l
theorem Q2 (d:Nat) (l:List (List Int)):(l.map oX).all (cr (d+2))=true:=by
 rw [sk];intro u hu;obtain ⟨x,_,rfl⟩:=sA.1 hu;exact Vv d x
theorem adt (d:Nat) (l:List (List Int)):cr (d+3) (jx l)=true:=Q2 d l
theorem LZ (k:IntKind) (n:Int):cr 8 (.int k n)=true:=rfl
theorem L7 (b:Bool):cr 8 (.bool b)=true:=rfl
theorem L0 (l:List Int) (n:Nat) (c:hE):cr 8 (.av (l.map h0) n c)=true:=Vw 6 l
theorem L2 (l:List (List Int)) (n:Nat) (c:hE):cr 8 (.av (l.map oX) n c)=true:=Q2 5 l
theorem L1 (l:List Int):cr 8 (oX l)=true:=Vv 6 l
theorem L3 (l:List (List Int)):cr 8 (jx l)=true:=adt 5 l
theorem L8 (k:FuncId):cr 8 (.func k [] [])=true:=rfl
theorem L9 (n:Nat) (c:hE):cr 8 (.av [] n c)=true:=rfl
theorem JS (l:List (List Int)) (n:Nat) (c:hE):cr 8 (.agg [.av (l.map oX) n c])=true:=by
 show [I.av (l.map oX) n c].all (cr 7)=true;rw [tt,tV,tp];exact Q2 4 l
theorem L4 (l:List (List Int)):cr 8 (.agg [jx l])=true:=JS l _ _
theorem L5 (l:List (List Int)):cr 8 (.bS [jx l])=true:=JS l _ _
theorem L6 (l:List (List Int)) (n:Nat) (c:hE):cr 8 (.bS [.av (l.map oX) n c])=true:=JS l _ _
theorem Pa (i:Nat) (h:i≤9223372036854775806):IntKind.i64.wrap ((i:Int)+1)=((i+1:Nat):Int):=by rw [IntKind.wrap_i64];omega
theorem HK (n:Int) (ab:-9223372036854775808≤n) (ae:n≤9223372036854775807):IntKind.i64.wrap n=n:=by rw [IntKind.wrap_i64];omega
theorem Vu:∀ {d:Nat} {v:I},cr d v=true→cr (d+1) v=true
 | 0,v,h=>by simp [cr] at h
 | d+1,v,h=>by
   have key:∀ {l:List I},l.all (cr d)=true→l.all (cr (d+1))=true:=fun h=>by
    rw [sk] at h ⊢;exact fun u hu=>Vu (h u hu)
   cases v <;> simp only [cr,sn,tL] at h ⊢ <;> first | trivial | exact key h | exact ⟨key h.1,key h.2⟩
theorem HB {p:Prop} [Decidable p] {A C:Prop} (ab:p→A) (ae:¬ p→C):(match decide p with | true=>A | false=>C):=by
 by_cases h:p
 ·simp only [h,decide_true];exact ab h
 ·simp only [h,decide_false];exact ae h
theorem q' {k:FuncId} {xs:List I} {v:I}:∀ p∈([]:c7),p.1=k→p.2.1=xs→p.2.2=v:=fun _ h=>by simp at h
theorem BS {k k':FuncId} {xs ys:List I} {v bo:I} (h:k'=k→ys=xs→bo=v):∀ p∈([(k',ys,bo)]:c7),p.1=k→p.2.1=xs→p.2.2=v:=fun p aB=>by
 simp only [List.mem_singleton] at aB;subst aB;exact h
theorem rC {k:FuncId} {xs:List I} {v:I} {acc:c7} (h:acc.all (fun p=>p.1 != k)=true):∀ p∈acc,p.1=k→p.2.1=xs→p.2.2=v:=fun p aB e=>by
 have:=sk.1 h p aB;simp [e] at this
def Hy (cap:List I):Prop:=cap.all (cr 7)=true∧∀ u∈cap,∃ cs,u=.bS cs
theorem Hy.Sv {cap:List I} (h:Hy cap):cap.all (cr 8)=true:=by
 have ab:=h.1;rw [sk] at ab ⊢;exact fun u hu=>Vu (ab u hu)
theorem Hy.iD {cap:List I} (h:Hy cap) (H:List ar):cap.map (iD H)=cap:=by
 conv=>rhs;rw [←uO cap]
 apply tF;intro u hu;obtain ⟨cs,rfl⟩:=h.2 u hu;rfl
theorem Hy.hW {cap:List I} (h:Hy cap) (H:List ar):cap.map (hW H)=cap:=by
 conv=>rhs;rw [←uO cap]
 apply tF;intro u hu;obtain ⟨cs,rfl⟩:=h.2 u hu;rfl
theorem Hy.cc {cap:List I} (h:Hy cap):cap.map I.cc=cap:=by
 conv=>rhs;rw [←uO cap]
 apply tF;intro u hu;obtain ⟨cs,rfl⟩:=h.2 u hu;rfl
theorem Hy.fn {cap:List I} (h:Hy cap) (H:List ar) (k:FuncId):Ab.iD H (.func k [] cap)=.func k [] cap:=by
 simp only [Ab.iD,h.hW,uw]
theorem Hy.Vo {cap:List I} (h:Hy cap) (k:FuncId):cr 8 (.func k [] cap)=true:=by
 show (([]:List I).all (cr 7) && cap.all (cr 7))=true;rw [h.1];rfl
theorem Hy.nil:Hy []:=⟨rfl,by simp⟩
section
variable {P:Program}
theorem call6 {k:FuncId} {xs bs:List I} {H:List ar} {lo:Nat} {v:I} (af:(xs.map (iD H)).map I.cc=bs) (aB:(xs.map (iD H)).all (cr 8)=true) (h:nn P k bs v) (ah:fz v=true):oV P 6 lo (.fn k) xs H v.cc H:=by
 subst af;refine ⟨k9 (.fn k) ((xs.map (iD H)).map I.cc) [] 0 v [],EB h.1,?_⟩;simp only [eQ,aB,EA,sa,yW h.2,ah]
end
theorem TP {H:List ar} {id d:Nat} {l:List I} (h:H[id]?=some (.cells l)) (aB:(l.map I.view).all (cr d)=true):bM H 0 H.length 0 (d+1) (.ptr id 0)=some (.bS (l.map I.view)):=by
 have ab:=(r_.1 h).1;have ae:ea (bM H 0 H.length 0 d) (l.map I.view)=some (l.map I.view):=zU fun u hu=>yW (by rw [sk] at aB;exact aB u hu);simp only [bM,Nat.not_lt_zero,if_false,h,tj,ae,sd];rw [if_neg (by omega)]
end Go.Proofs.Ytkoioidpbbbaiaa.Ab


namespace Go.Proofs.Ytkoioidpbbbaiaa.Ab
open Go
section
variable {P:Program}
theorem TH (eG:P.follows .mixedOrders=true) {k:Nat} {A:dw} {rc:gE} {n:Nat} {ts:List H8} (ao:qj P A k=some (rc,n,ts)) {lo:Nat} {args T:List I} {H H':List ar} (b0:args++List.replicate (n-args.length) .a0=T) {v:I} (JO:a' lo H H')
  (h:dQ P A k lo none rc T H fun e g6 H1=>(e=.normal∨e=.ret)∧lI H1 H'∧(rB H1 g6 ts).map jg=some v):Sem P (.fn k) args H lo v H':=by
 unfold qj at ao;split at ao
 ·rename_i f aP;split at ao
  ·rename_i c af;split at ao
   ·rename_i VC O8 ab ae aF ba;simp only [Option.some.injEq,Prod.mk.injEq] at ao;obtain ⟨rfl,rfl,rfl⟩:=ao;subst b0;refine Hb eG aP af (by simpa using ae) ab JO (oR (fun e s a_=>?_) (G6 aF h));obtain ⟨cf,ca,eS⟩:=a_;simp only [Option.map_eq_some_iff] at eS;obtain ⟨vs,eS,iP⟩:=eS;exact ⟨cf,ca,vs,by rw [Nv _ _ ba,eS],iP⟩
   ·cases ao
  ·cases ao
 ·cases ao
end
theorem re {P:Program} (eG:P.follows .mixedOrders=true) {k:Nat} {A:dw} {rc:gE} {n:Nat} {ts:List H8} (ao:qj P A k=some (rc,n,ts)) {lo:Nat} {args T:List I} {H H':List ar} (b0:args++List.replicate (n-args.length) .a0=T) {v:I} (JO:a' lo H H')
  (h:∀ Q:cQ→List I→List ar→Prop,(∀ e g6 H1,(e=.normal∨e=.ret)∧lI H1 H'∧(rB H1 g6 ts).map jg=some v→Q e g6 H1)→dQ P A k lo none rc T H Q):Sem P (.fn k) args H lo v H' :=
 TH eG ao b0 JO (h _ fun _ _ _ h=>h)
theorem Oi {P:Program} (eG:P.follows .mixedOrders=true) {k:Nat} {A:dw} {rc:gE} {n:Nat} {ts:List H8} (ao:qj P A k=some (rc,n,ts)) {args T:List I} (b0:args++List.replicate (n-args.length) .a0=T) {v:I} (aB:cr 8 v=true)
  (h:∀ Q:cQ→List I→List ar→Prop,(∀ e g6 H1,MG ts v e g6 H1→Q e g6 H1)→dQ P A k 0 none rc T [] Q):nn P k args v :=
 Qh eG ao b0 aB (h _ fun _ _ _ h=>h)
theorem ra {P:Program} {lo:Nat} {bY:fc} {xs:List I} {H H':List ar} {v:I} (h:Sem P bY xs H lo v H'):oV P 1 lo bY xs H v H' :=
 ⟨k9 bY xs H lo v H',EB h,by simp only [eQ,EA]⟩
theorem WE {P:Program} {k:FuncId} {args:List I} {v:I} (cu:args.all (cr 8)=true) (h:nn P k args v) (H:List ar):Sem P (.fn k) args H H.length v H:=by
 obtain ⟨⟨_,ab,ae⟩,aB⟩:=h
 exact ⟨a'.refl _ _,ab,fun B aa J S w vs ag aI ad=>CallsIn.mono (ae B _ [] S w vs (w6 ag) (fun b i h=>by obtain ⟨_,_,h⟩:=kt h;cases h) (ad.pure cu)) fun e w' he=>by
  cases e with
  | returned v=>exact xH ag (yW (n:=0) aB) he
  | panicked c=>exact he.elim
  | outgrown=>exact he.elim⟩
theorem MI {P:Program} {k:FuncId} {args:List I} {v:I} (cu:args.all (cr 8)=true) (h:nn P k args v) (H:List ar) (lo:Nat):oV P 0 lo (.fn k) args H v H :=
 ⟨_,EB (WE cu h H),by simp only [eQ,EA,sa,yW h.2,sd]⟩
theorem T4 {X Z:List ar} {j:Nat} {o:ar} (h:X[j]?=some o):(X++Z)[j]?=some o:=by
 rw [sf (r_.1 h).1];exact h
theorem HO (X:List ar) (c dU:ar):(X++[c]).set X.length dU=X++[dU]:=by simp
theorem IH (X:List ar) (c:ar):(X++[c])[X.length]?=some c:=by simp
end Go.Proofs.Ytkoioidpbbbaiaa.Ab


namespace Go.Proofs.Ytkoioidpbbbaiaa.Ab
open Go
def qn:Nat:=18446744073709551616
def qI (p:Prop) [Decidable p] {aV:Type} (k:Option aV):Option aV:=if p then k else none
theorem Hj {p:Prop} [Decidable p] {aV:Type} {k:Option aV} {v:aV} (h:qI p k=some v):p∧k=some v:=by
 unfold qI at h;split at h
 ·exact ⟨by assumption,h⟩
 ·cases h
theorem qS {p:Prop} [Decidable p] {aV:Type} {k:Option aV} (h:p):qI p k=k:=if_pos h
theorem p8 {α aV:Type} {x:Option α} {f:α→Option aV} {v:aV} (h:x.bind f=some v):∃ a,x=some a∧f a=some v:=by
 cases x with
 | none=>cases h
 | some a=>exact ⟨a,rfl,h⟩
theorem Hp {b:Bool} {aV:Type} {x y:Option aV} {v:aV} (af:b=true) (h:(if b=true then x else y)=some v):x=some v:=by
 rw [if_pos af] at h;exact h
theorem Ho {b:Bool} {aV:Type} {x y:Option aV} {v:aV} (af:b=false) (h:(if b=true then x else y)=some v):y=some v:=by
 rw [if_neg (by rw [af];decide)] at h;exact h
def ix {α:Type} [Inhabited α] (l:List α) (i:Int):α:=l.getD i.toNat default
theorem rK {α:Type} [Inhabited α] {l:List α} {k:Nat} (h:k<l.length):ix l (k:Int)=l[k]:=by
 simp [ix,h]
theorem Ox {α:Type} [Inhabited α] {l:List α} {i:Int} (h:0≤i∧i<(l.length:Int)):ix l i=l[i.toNat]'(by omega):=by
 have:i.toNat<l.length:=by omega
 simp [ix,this]
theorem J' {α:Type} [Inhabited α] {l:List α} {i:Int} (h:0≤i∧i<(l.length:Int)):ix l i∈l:=by
 rw [Ox h];exact List.getElem_mem _
abbrev w (n:Int):Int:=IntKind.i64.wrap n
theorem afp {n:Int} (ab:-9223372036854775808≤n) (ae:n≤9223372036854775807):w n=n:=HK n ab ae
theorem Hr {aV:Type} {v:aV} {G:Prop} (h:(none:Option aV)=some v):G:=by cases h
def Yy {α:Type} (f:α→I) (l:List α):I:=.av (l.map f) l.length .shared
def Yz {α:Type} (f:α→List I) (l:List α):I:=.av (l.flatMap f) l.length .shared
theorem rD {α:Type} [Inhabited α] (f:α→I) (l:List α) (n:Int) (h:0≤n∧n<(l.length:Int)):(l.map f).drop (n.toNat*1)=f (ix l n)::(l.drop (n.toNat+1)).map f:=by
 have aX:n.toNat<l.length:=by omega
 rw [ti,←tC,s7 aX,sD,Ox h]
theorem IY {α:Type} [Inhabited α] (f:α→List I) (s:Nat) (ah:∀ x,(f x).length=s):∀ (l:List α) (n:Int),0≤n∧n<(l.length:Int)→(l.flatMap f).drop (n.toNat*s)=f (ix l n)++(l.drop (n.toNat+1)).flatMap f:=by
 have key:∀ (l:List α) (k:Nat) (h:k<l.length),(l.flatMap f).drop (k*s)=f l[k]++(l.drop (k+1)).flatMap f:=by
  intro l
  induction l with
  | nil=>intro k h;simp at h
  | cons x l a8 =>
    intro k h;cases k with
    | zero=>simp
    | succ k =>
      (have al:k<l.length:=by simpa using h);(have e:(k+1)*s=(f x).length+k*s:=by rw [ah,s8,Nat.one_mul,te]);rw [ux,e,List.drop_length_add_append,a8 k al];rfl
 intro l n h;rw [key l n.toNat (by omega),Ox h]
theorem Ih {α:Type} (f:α→List I) (s:Nat) (ah:∀ x,(f x).length=s) (l:List α):(l.flatMap f).length=l.length*s:=by
 induction l with
 | nil=>simp
 | cons x l a8=>rw [ux,sB,a8,ah,sJ,s8,Nat.one_mul,te]
theorem Tn {α:Type} (f:α→List I) (l:List α) (x:α) (c:hE):I.av (l.flatMap f++f x) (l.length+1) c=.av ((l++[x]).flatMap f) (l++[x]).length c:=by
 simp [List.flatMap_append]
theorem aeV {α:Type} (f:α→I) (l:List α) (n:Int) (h:0≤n∧n≤(l.length:Int)) (c:hE):I.av (((l.map f).drop (n.toNat*1)).take ((l.length-n.toNat)*1)) (l.length-n.toNat) c=.av ((l.drop n.toNat).map f) (l.drop n.toNat).length c:=by
 rw [ti,ti,List.length_drop,←tC,tb (by simp)]
theorem aeU {α:Type} (f:α→I) (l:List α) (n:Int) (h:0≤n∧n≤(l.length:Int)) (c:hE):I.av ((l.map f).take (n.toNat*1)) n.toNat c=.av ((l.take n.toNat).map f) (l.take n.toNat).length c:=by
 rw [ti,s9,←List.map_take,Nat.min_eq_left (by omega)]
theorem Sx {a b:Bool} (h:a=true) (k:b=true):(a && b)=true:=by rw [h,k];rfl
theorem p4 {α:Type} {f:α→Bool} {x:α} {l:List α} (h:f x=true) (k:l.all f=true):(x::l).all f=true:=Sx h k
theorem HS {cs:List I} {d:Nat} (h:cs.all (cr d)=true):cr (d+1) (.agg cs)=true:=h
theorem Ia {cs:List I} {d:Nat} (h:cs.all (cr d)=true):cr (d+1) (.bS cs)=true:=h
theorem IL {cs:List I} {d:Nat} (h:cs.all (cr d)=true):cr (d+1) (.tuple cs)=true:=h
theorem IK {k:FuncId} {a b:List I} {d:Nat} (ab:a.all (cr d)=true) (ae:b.all (cr d)=true):cr (d+1) (.func k a b)=true:=Sx ab ae
theorem rE {α:Type} {f:α→I} {d:Nat} (h:∀ x,cr d (f x)=true) (l:List α) (n:Nat) (c:hE):cr (d+1) (.av (l.map f) n c)=true:=by
 show (l.map f).all (cr d)=true;rw [sk];intro u hu;obtain ⟨x,_,rfl⟩:=sA.1 hu;exact h x
theorem Hu {α:Type} {f:α→List I} {d:Nat} (h:∀ x,(f x).all (cr d)=true) (l:List α) (n:Nat) (c:hE):cr (d+1) (.av (l.flatMap f) n c)=true:=by
 show (l.flatMap f).all (cr d)=true;rw [sk];intro u hu;obtain ⟨x,_,aj⟩:=tG.1 hu;exact sk.1 (h x) u aj
theorem Vt {α:Type} {f:α→I} {d:Nat} (h:∀ x,cr d (f x)=true) (l:List α):(l.map f).all (cr d)=true:=by
 rw [sk];intro u hu;obtain ⟨x,_,rfl⟩:=sA.1 hu;exact h x
theorem nn.cc {P:Program} {k:FuncId} {args:List I} {v:I} (h:nn P k args v) (aB:cr 8 v.cc=true):nn P k args v.cc :=
 ⟨⟨h.1.1,h.1.2.1,fun B aa J S w vs ag aI ad=>CallsIn.mono (h.1.2.2 B aa J S w vs ag aI ad) fun e w' he=>by
   cases e with
   | returned x=>exact aZ.cc he
   | panicked c=>exact he.elim
   | outgrown=>exact he.elim⟩,aB⟩
section
variable {P:Program} {B:Nat} {J:List Nat} {w:World} {aa:Nat→Option aH} {S:Nat→Nat→Prop}
theorem aZ.afq {H':List ar} {r:I} {v:Value} {w':World} (h:aZ B aa J S w H' r v w'):aZ B aa J S w H' r.settle.view.cc v w':=by
 have ab:aZ B aa J S w H' r.settle v w':=by
  cases r with
  | av c n k=>cases k with
    | uniq z=>exact h.settle
    | _=>exact h
  | _=>exact h
 have ae:r.settle.cW=true:=by
  cases r with
  | av c n k=>cases k <;> rfl
  | _=>rfl
 obtain ⟨bu,ck,bL,a,b,c,d,e⟩:=ab;exact aZ.cc ⟨bu,ck,bL,a,b,c,d.view ae,aU.b4 (I.dm _)⟩
theorem adu (eG : P.follows .mixedOrders = true) {k : Nat} {f : Func} {c : Code} (aP : P.funcs[k]? = some f) (af : f.body = some c) (aI : f.name ≠ "runtime.NumGoroutine") {A : dw} (bT : codeOk A c = true)
  {args:List I} {v:I} (aB:cr 8 v=true)
  (h:dc P A k 0 none c 0 ⟨args++List.replicate (f.ntmps-args.length) .a0,[]⟩ fun e s=>(e=.normal∨e=.ret)∧∃ vs r,gX P s.H s.T f.results.toList=some vs∧bM s.H 0 s.H.length 0 8 (jg vs)=some r∧r.settle.view.cc=v):nn P k args v:=by
 refine ⟨⟨a'.refl _ _,⟨f,aP,by simp [af],aI⟩,fun B aa J S w xs ag _ ad=>?_⟩,aB⟩;refine callsIn_of_wp_marks aP af trivial ?_;have aL:=yd ag ad f.ntmps;have dB:=(oP ag).1;refine Bx eG c 0 _ _ h bT Fence.wide _ B w.heap.size J w (hY aa) S _ (.inl ⟨rfl,rfl⟩) (fun l a w aO=>aO.elim) aL fun e s al aM w' ah=>?_;obtain ⟨he,vs,r,ai,C0,eH⟩:=al;obtain ⟨b5,cZ,a4,aJ,aN,cg⟩:=ah;have iV:LeavesInM Fence.wide 0 P f aM.tmps (fZ B aa J S w [] v) aM.defers .returning w':=by
  refine n5 (aa:=b5) (S:=a4) (J:=cZ) (B:=B) (H:=s.H) (lH:=aa) (S0:=S) (w0:=w) aM.defers w' cg.M.2.1 cg.M.2.2 (dB.trans aN) cg.H fun bX dD dt mJ mK=>?_
  have b0:a5 .slot b5 cZ a4 bX s.T aM.tmps.toList:=⟨cg.T.len,fun i u v hu ad=>(cg.T.rel i u v hu ad).mono (Ext.refl _) (fun b o h=>⟨h,dt b o h⟩),fun i u v hu ad =>
   (cg.T.own i u v hu ad).mono (Ext.refl _) (fun b o h=>⟨h,dt b o h⟩) fun b af=>⟨af,dD b _ af,fun _ h=>h⟩⟩
  obtain ⟨x,q1,aW⟩:=xS mK b0 ai;have kQ:=xG ag (fun id aE=>by simp at aE) C0 (aZ.after aJ mJ aW);refine ⟨x,q1,?_⟩;rw [←eH];exact kQ.afq
 rcases he with rfl | rfl
 ·exact iV
 ·exact iV
end
inductive HQ (rs:List H8) (v:I) (e:cQ) (T:List I) (H:List ar):Prop where
 | mk (he:e=.normal∨e=.ret) (vs:List I) (ai:rB H T rs=some vs) (r:I) (aP:bM H 0 H.length 0 8 (jg vs)=some r) (ad:r.settle.view.cc=v)
theorem qD {P:Program} (eG:P.follows .mixedOrders=true) {k:Nat} {A:dw} {rc:gE} {n:Nat} {ts:List H8} (ao:qj P A k=some (rc,n,ts)) {args T:List I} (b0:args++List.replicate (n-args.length) .a0=T) {v:I} (aB:cr 8 v=true)
  (h:∀ Q:cQ→List I→List ar→Prop,(∀ e T H,HQ ts v e T H→Q e T H)→dQ P A k 0 none rc T [] Q):nn P k args v:=by
 have h:=h _ fun _ _ _ h=>h;unfold qj at ao;split at ao
 ·rename_i f aP;split at ao
  ·rename_i c af;split at ao
   ·rename_i VC O8 ab ae aF ba;simp only [Option.some.injEq,Prod.mk.injEq] at ao;obtain ⟨rfl,rfl,rfl⟩:=ao;subst b0;have a_:∀ e s,HQ O8 v e (a6.T s) (a6.H s)→(e=.normal∨e=.ret)∧∃ vs r,gX P s.H s.T f.results.toList=some vs∧bM s.H 0 s.H.length 0 8 (jg vs)=some r∧r.settle.view.cc=v:=fun e s ⟨cf,vs,Ql,r,ca,eS⟩=>by
     exact ⟨cf,vs,r,by rw [Nv _ _ ba,Ql],ca,eS⟩
    exact adu eG aP af (by simpa using ae) ab aB (oR a_ (G6 aF h))
   ·cases ao
  ·cases ao
 ·cases ao
theorem wp_loop {P:Program} {A:dw} {fn:FuncId} {lo:Nat} {rl:Option Nat} {cE:List Bool} {c:gE} {T Sp:List I} {H:List ar} {Q:cQ→List I→List ar→Prop} (b0:eZ cE T=Sp)
  (h:BH (fun T H Q=>ob T fun T=>dQ P A fn lo rl c T H fun e bf H'=>match e with
   | .normal=>xo (some cE) bf fun bf=>Q .normal bf H'
   | e=>Q e bf H') Sp H Q):dQ P A fn lo rl (.loop (some cE) c) T H Q:=by
 show xo (some cE) T _;rw [DS];subst b0;exact h
def LW {α:Type} (f:α→List I):Option α→I
 | none=>.eI
 | some x=>.bS (f x)
theorem Vs {α:Type} {f:α→List I} {d:Nat} (h:∀ x,(f x).all (cr d)=true) (x:Option α):cr (d+1) (LW f x)=true:=by
 cases x with
 | none=>rfl
 | some x=>exact h x
theorem Ix {f:I→Option I}:ea f []=some []:=rfl
theorem rf {f:I→Option I} {x y:I} {l r:List I} (h:f x=some y) (k:ea f l=some r):ea f (x::l)=some (y::r):=by simp only [ea,h,k,sd]
theorem MJ {H:List ar} {lo i n d:Nat} {vs rs:List I} (h:ea (bM H lo i n d) vs=some rs):bM H lo i n (d+1) (.tuple vs)=some (.tuple rs):=by simp only [bM,h,sd]
theorem aeK {α:Type} {f:α→I} {H:List ar} {id n:Nat} {l:List α} {cap:Option Nat} (ag:H[id]?=some (.cells (l.map f))) (aI:n=l.length) (ad:∀ x,(f x).view=f x):rowOf H (.ref id 0 n cap 1)=some (l.map f):=by
 subst aI;simp only [rowOf,ag,sy,ti,sW,sb,if_true,tj];rw [tb (by simp),vm];congr 1;exact tF fun x _=>ad x
theorem P8 {P:Program} {k:FuncId} {xs cs bs:List I} {H:List ar} {lo:Nat} {v:I} (ah:xs.map (iD H)=cs) (af:cs.map I.cc=bs) (aB:cs.all (cr 8)=true) (h:nn P k bs v) (ad:fz v=true):oV P 6 lo (.fn k) xs H v.cc H :=
 call6 (by rw [ah,af]) (by rw [ah];exact aB) h ad
theorem Ka {f:I→I} {x y:I} {l r:List I} (h:f x=y) (k:l.map f=r):(x::l).map f=y::r:=by rw [sD,h,k]
theorem M7 {f:I→I}:([]:List I).map f=[]:=rfl
theorem aeT {H:List ar} {k:FuncId} {a b aM au:List I} (ab:a.map (hW H)=aM) (ae:b.map (hW H)=au):iD H (.func k a b)=.func k aM au:=by simp only [iD,ab,ae]
theorem WM {H:List ar} {id off:Nat} {cs fG:List I} (ag:H[id]?=some (.cells cs)) (he:((cs.drop off).map I.view).map (kh H)=fG):hW H (.ptr id off)=.bS fG:=by simp only [hW,ag,he]
theorem Vk {P:Program} {C:b8} {lo mode:Nat} {o:Oper} {xs:Array Operand} {ts:Array TypeId} {vs:List I} {H:List ar} (aq:o.op=.call { callee:=.builtin .copy,args:=xs,argTypes:=ts }):a3 P C lo o mode vs H=j_ P lo ts H vs:=by
 unfold a3;rw [aq];rfl
def Ii {α J1:Type} (g:J1→α→Option J1):List α→J1→Option J1
 | [],s=>some s
 | x::l,s=>(g s x).bind fun t=>Ii g l t
theorem Oj {α J1:Type} {g:J1→α→Option J1}:∀ {l:List α} {s t:J1},Ii g l s=some t→∃ F:Nat→J1,F 0=s∧F l.length=t∧∀ (i:Nat) (h:i<l.length),g (F i) l[i]=some (F (i+1))
 | [],s,t,h=>⟨fun _=>s,rfl,Option.some.inj h,fun i hi=>absurd hi (by simp)⟩
 | x::l,s,t,h=>by
   obtain ⟨u,ab,ae⟩:=p8 h;obtain ⟨F,f1,f2,f3⟩:=Oj ae;refine ⟨fun i=>match i with | 0=>s | i+1=>F i,rfl,f2,fun i hi=>?_⟩;cases i with
   | zero=>show g s x=some (F 0);rw [f1,ab]
   | succ i=>exact f3 i (by simpa using hi)
def Seq (P:Program) (k:FuncId) (cap:List I) (E:List I):Prop :=
 ∀ (l N:Nat) (qF:Nat→List ar),(∀ i,(qF i).length=N)→l<N →
   (∀ (i:Nat) (h:i<E.length) (Y:List ar),∃ qy,Sem P (.yield l) [E[i]] (qF i++Y) 0 (.bool true) (qF (i+1)++qy)) →
   ∀ Y,∃ qy,Sem P (.fn k) (.yield l::cap) (qF 0++Y) 0 (.tuple []) (qF E.length++qy)
theorem aeQ {P:Program} {l:Nat} {qF:Nat→List ar} {E:List I} (ai:∀ (i:Nat) (h:i<E.length) (Y:List ar),∃ qy,Sem P (.yield l) [E[i]] (qF i++Y) 0 (.bool true) (qF (i+1)++qy)) (Y:List ar) :
  ∃ Z:Nat→List ar,Z 0=Y∧∀ (i:Nat) (h:i<E.length),Sem P (.yield l) [E[i]] (qF i++Z i) 0 (.bool true) (qF (i+1)++Z (i+1)):=by
 classical
 have nS:∀ (i:Nat) (Y:List ar),∃ qy,∀ h:i<E.length,Sem P (.yield l) [E[i]] (qF i++Y) 0 (.bool true) (qF (i+1)++qy):=fun i Y=>by
  by_cases h:i<E.length
  ·obtain ⟨qy,aX⟩:=ai i h Y;exact ⟨qy,fun _=>aX⟩
  ·exact ⟨[],fun aX=>absurd aX h⟩
 exact ⟨fun n=>Nat.rec Y (fun i Z=>Classical.choose (nS i Z)) n,rfl,fun i h=>ur (nS i _) h⟩
theorem Iw {H X:List ar} (h:H.length≤X.length):a' 0 H X:=⟨h,fun _ h _=>absurd h (by omega)⟩
theorem Jl (X Y:List ar) (c d:ar):((X++[c])++Y).set X.length d=(X++[d])++Y:=by
 rw [sw,List.set_append_right _ _ (sb _)];simp
theorem It (X Y:List ar) (c:ar):((X++[c])++Y)[X.length]?=some c:=by
 rw [sw,sr (sb _)];simp
theorem aeH {α:Type} {P:Program} {A:dw} {fn:FuncId} {rl:Option Nat} {k:FuncId} {cap:List I} {bq:List Nat} {gH ct:Code} {T:List I} {H Hn:List ar} {Q:cQ→List I→List ar→Prop} {f:α→I} {L:List α} (Ik:Seq P k cap (L.map f))
  (Obj:Nat→List ar) (aQ:Obj 0=H) (hlen:∀ i,(Obj i).length=H.length)
  (K2:∀ (i:Nat) (h:i<L.length) (Y:List ar),∃ qy,Sem P (.yield H.length) [f L[i]] ((Obj i++[.loop .ready none fn (T.map I.view) bq gH ct A])++Y) 0 (.bool true) ((Obj (i+1)++[.loop .ready none fn (T.map I.view) bq gH ct A])++qy))
  (hg:inLoop H rl=true) (aI:Obj L.length=Hn) (bp:∀ qy,Q .normal (T.map I.settle) ((Hn++[.dead])++qy)):oE P A fn 0 rl (.func k [] cap) bq gH ct T H Q:=by
 obtain ⟨qy,cp⟩:=Ik H.length (H.length+1) (fun i=>Obj i++[.loop .ready none fn (T.map I.view) bq gH ct A]) (fun i=>by simp [hlen]) (by omega) (fun i h Y=>by
  have aX:i<L.length:=by simpa using h
  obtain ⟨qy,ai⟩:=K2 i aX Y
  exact ⟨qy,by rw [List.getElem_map];exact ai⟩) []
 subst aI;simp only [sM,sW,aQ] at cp;have ao:(Obj L.length).length=H.length:=hlen _;refine ⟨hg,.tuple [],_,.ready,none,fn,T.map I.view,bq,gH,ct,A,cp,by rw [←ao];exact It _ _ _,by decide,?_⟩;show Q .normal (T.map I.settle) (((Obj L.length++[ar.loop .ready none fn (T.map I.view) bq gH ct A])++qy).set H.length .dead);rw [←ao,Jl];exact bp qy
end Go.Proofs.Ytkoioidpbbbaiaa.Ab


namespace Go.Proofs.Ytkoioidpbbbaiaa.Ab
open Go
theorem TM {H:List ar} {lo i n d:Nat} {k:FuncId} {a b aM au:List I} (ab:ea (bM H lo i n d) a=some aM) (ae:ea (bM H lo i n d) b=some au):bM H lo i n (d+1) (.func k a b)=some (.func k aM au):=by simp only [bM,ab,ae]
theorem aeI {α:Type} {P:Program} {A:dw} {fn:FuncId} {rl:Option Nat} {k:FuncId} {cap:List I} {t:Nat} {bq:List Nat} {gH ct:Code} {T:List I} {H Hn:List ar} {Q:cQ→List I→List ar→Prop} {f:α→I} {L:List α} (Ik:Seq P k cap (L.map f))
  (Obj:Nat→List ar) (ax:df T t=.func k [] cap) (aQ:Obj 0=H) (hlen:∀ i,(Obj i).length=H.length)
  (K2:∀ (i:Nat) (h:i<L.length) (Y:List ar),∃ qy,Sem P (.yield H.length) [f L[i]] ((Obj i++[.loop .ready none fn (T.map I.view) bq gH ct A])++Y) 0 (.bool true) ((Obj (i+1)++[.loop .ready none fn (T.map I.view) bq gH ct A])++qy))
  (hg:inLoop H rl=true) (aI:Obj L.length=Hn) (bp:∀ qy,Q .normal (T.map I.settle) ((Hn++[.dead])++qy)):dQ P A fn 0 rl (.AM (.nc t) bq gH ct) T H Q:=by
 show hI T t _;rw [iQ,ax];exact aeH Ik Obj aQ hlen K2 hg aI bp
end Go.Proofs.Ytkoioidpbbbaiaa.Ab


namespace Go.Proofs.Ytkoioidpbbbaiaa.Ab
open Go
theorem aah {α:Type} [Inhabited α] (f:α→List I) (s:Nat) (ah:∀ x,(f x).length=s) (l:List α) (n:Int) (h:0≤n∧n<(l.length:Int)) (j:Nat) (aw:j<s):(l.flatMap f)[n.toNat*s+j]?=(f (ix l n))[j]?:=by
 have e:=IY f s ah l n h
 have:(l.flatMap f)[n.toNat*s+j]?=((l.flatMap f).drop (n.toNat*s))[j]?:=by rw [sN]
 rw [this,e,sf (by rw [ah];exact aw)]
theorem JT {α:Type} [Inhabited α] (f:α→List I) (s:Nat) (ah:∀ x,(f x).length=s) (l:List α) (n:Int) (h:0≤n∧n<(l.length:Int)) (j:Nat) {v:I} (aw:(f (ix l n))[j]?=some v) {K:I→Prop} (k:K v):eJ (l.flatMap f) (0+n.toNat*s+j) K:=by
 refine Ew (x:=v) ?_ k;rw [sy,aah f s ah l n h j (by have:=(r_.1 aw).1;rw [ah] at this;exact this),aw]
theorem O0 {α:Type} [Inhabited α] (f:α→List I) (s:Nat) (ah:∀ x,(f x).length=s) (l:List α) (n:Int) (h:0≤n∧n<(l.length:Int)) {v:I} (aw:(f (ix l n))[0]?=some v) {K:I→Prop} (k:K v):eJ (l.flatMap f) (0+n.toNat*s) K :=
 JT f s ah l n h 0 aw k
theorem Xk {α:Type} {f:α→List I} (h:∀ x,∀ u∈f x,u.view=u) (l:List α):∀ u∈l.flatMap f,u.view=u:=fun u hu=>by
 obtain ⟨x,_,aj⟩:=tG.1 hu;exact h x u aj
theorem Xl:∀ u∈([]:List I),u.view=u:=fun u h=>absurd h (by simp)
theorem ND {v:I} {l:List I} (h:v.view=v) (k:∀ u∈l,u.view=u):∀ u∈v::l,u.view=u:=fun u hu=>by
 rcases List.mem_cons.1 hu with rfl | hu
 ·exact h
 ·exact k u hu
end Go.Proofs.Ytkoioidpbbbaiaa.Ab


namespace Go.Proofs.Ytkoioidpbbbaiaa.Ab
open Go
theorem qO {n:Int} (h:-9223372036854775808≤n∧n≤9223372036854775807):w n=n:=afp h.1 h.2
theorem Jo (i:Nat) (h:i≤9223372036854775806):w ((i:Int)+1)=((i+1:Nat):Int):=Pa i h
end Go.Proofs.Ytkoioidpbbbaiaa.Ab


namespace Go.Proofs.Ytkoioidpbbbaiaa.Ab
open Go
def p7 (p:Int×Int):List I:=[h0 p.1,h0 p.2]
theorem LY (p:Int×Int):(p7 p).length=2:=rfl
theorem Qc (k:IntKind):∀ (xs ys:List Int),xs.length=ys.length→dL (xs.map (.int k)) (ys.map (.int k))=some (decide (xs=ys))
 | [],[],_=>rfl
 | x::xs,y::ys,h=>by
   simp only [sD,dL,if_true,Qc k xs ys (by simpa using h),sd];congr 1;by_cases aj:x=y <;> by_cases ao:xs=ys <;> simp [aj,ao]
 | [],y::ys,h=>by cases h
 | x::xs,[],h=>by cases h
theorem YE {P:Program} {t:TypeId} {fs:Array Field} {op:BinOp} (ab:P.underlying t=some (.struct fs)) (ae:gS P fs.toList 0=true) (aF:P.stoodInHeld t=false) (ba:fs.size=2) (bP:P.eqGuardType P.depth t=false) (a b c d:Int) (aC:op=.eql∨op=.neq) :
  fo P op t (.agg [h0 a,h0 b]) (.agg [h0 c,h0 d])=some (.bool (match op with | .eql=>decide ((a,b)=(c,d)) | _=>!decide ((a,b)=(c,d)))):=by
 unfold fo;simp only [ab];rw [if_pos ⟨ae,aF,by simp [ba],by simp [ba],bP⟩];have e:=Qc .i64 [a,b] [c,d] rfl;simp only [sD,uw] at e;have b':decide ([a,b]=[c,d])=decide ((a,b)=(c,d)):=by simp
 rcases aC with rfl | rfl <;> simp only <;> rw [show [h0 a,h0 b]=[I.int .i64 a,I.int .i64 b] from rfl,show [h0 c,h0 d]=[I.int .i64 c,I.int .i64 d] from rfl,e,sd,b']
theorem YD {P:Program} {t e:TypeId} {len:Nat} {kd:IntKind} (k:IntKind) (ab:P.underlying t=some (.array len e)) (ae:P.underlying e=some (.int kd)) (aF:bF P e=some 1) (ba:P.eqGuardType P.depth t=false) {xs ys:List Int} (aj:xs.length=len) (aY:ys.length=len) :
  fo P .eql t (.agg (xs.map (.int k))) (.agg (ys.map (.int k)))=some (.bool (decide (xs=ys))):=by
 unfold fo;simp only [ab,ae,aF];rw [if_pos ⟨by simp [aj],by simp [aY],ba⟩,Qc k xs ys (by rw [aj,aY]),sd]
theorem Vj {P:Program} {C:b8} {lo:Nat} {o:Oper} {op:BinOp} {t u:TypeId} {a b:Operand} {x y v:I} {H:List ar} (aq:o.op=.binOp op t a b u) (aI:iZ b=false) (h:fo P op t x y=some v):a3 P C lo o 0 [x,y] H=some (v,H):=by
 unfold a3;rw [aq];show (cB P o [x,y]).map _=_;unfold cB;rw [aq];simp only [aI];show (fo P op t x y).map _=_;rw [h];rfl
end Go.Proofs.Ytkoioidpbbbaiaa.Ab


namespace Go.Proofs.Ytkoioidpbbbaiaa.Ab
open Go
section
variable {P:Program} {B N:Nat} {J:List Nat} {w:World} {H:List ar} {aa:Nat→Option aH} {S:Nat→Nat→Prop}
end
end Go.Proofs.Ytkoioidpbbbaiaa.Ab


namespace Go.Proofs.Ytkoioidpbbbaiaa.Ab
open Go
theorem afj {α:Type} {f:α→I} (h:∀ x,(f x).view=f x) (l:List α):(l.map f).map I.view=l.map f:=by rw [vm];exact tF fun x _=>h x
theorem UI {α:Type} (f:α→I) (l:List α) {n:Nat} (aP:∀ x,(f x).view=f x) (h:l.length=n):(((l.map f).drop 0).take n).map I.view=l.map f:=by
 rw [tj,tb (by simp [h]),afj aP]
def aam (P:Program) (t:TypeId):Array Field:=match P.underlying t with
 | some (.struct fs)=>fs
 | _=>#[]
theorem YF {P:Program} {t e:TypeId} {len:Nat} {kd k:IntKind} {xs:List Int} {n:Int} (ab:P.underlying t=some (.array len e)) (ae:P.underlying e=some (.int kd)) (aF:bF P e=some 1) (ba:dK P e=false) (ao:xs.length=len) (aI:0≤n∧n<(len:Int)) :
  o0 P t (.agg (xs.map h0)) (.int k n)=some (h0 (ix xs n)):=by
 unfold o0;have bP:g_ n len=some n.toNat:=by unfold g_;rw [if_pos aI]
 simp only [ab,aF,bP,sa,ti];unfold iK;simp only [ae,ba];have aR:n.toNat<xs.length:=by omega
 rw [sj,sg aR,sd,Ox (by omega)]
theorem adf {P:Program} {C:b8} {lo:Nat} {o:Oper} {t:TypeId} {a b:Operand} {x y v:I} {H:List ar} (aq:o.op=.index t a b) (h:o0 P t x y=some v) (ad:v.view=v:=by rfl):a3 P C lo o 0 [x,y] H=some (v,H):=by
 unfold a3;rw [aq];show (cB P o [x,y]).map _=_;unfold cB;rw [aq];show ((o0 P t x y).map I.view).map _=_;rw [h,sd,sd,ad]
end Go.Proofs.Ytkoioidpbbbaiaa.Ab


namespace Go.Proofs.Ytkoioidpbbbaiaa.Ab
open Go
def Kh:List I→Nat→List (Nat×I)→List I
 | [],_,_=>[]
 | x::T,_,[]=>x::T
 | x::T,i,(j,v)::r=>match Nat.beq i j with
   | true=>v::Kh T (i+1) r
   | false=>x::Kh T (i+1) ((j,v)::r)
def Ic (u:Nat→I):Nat→Nat→List (Nat×I)→List I
 | 0,_,_=>[]
 | n+1,i,[]=>u i::Ic u n (i+1) []
 | n+1,i,(j,v)::r=>match Nat.beq i j with
   | true=>v::Ic u n (i+1) r
   | false=>u i::Ic u n (i+1) ((j,v)::r)
def rO (n:Nat) (bq:List (Nat×I)) (T:List I):Prop:=T.length=n∧T=Kh T 0 bq
theorem O4 {u bH:Nat→I}:∀ (n i:Nat) (bq:List (Nat×I)),(∀ k,i≤k→u k=bH k)→Ic u n i bq=Ic bH n i bq
 | 0,_,_,_=>rfl
 | n+1,i,[],h=>by
   rw [Ic,Ic,h i (sb _),O4 n (i+1) [] fun k al=>h k (by omega)]
 | n+1,i,(j,v)::r,h=>by
   rw [Ic,Ic];cases Nat.beq i j with
   | true=>exact congrArg _ (O4 n (i+1) r fun k al=>h k (by omega))
   | false=>show u i::_=bH i::_;rw [h i (sb _),O4 n (i+1) _ fun k al=>h k (by omega)]
theorem WN:∀ (T:List I) (i:Nat) (bq:List (Nat×I)),Kh T i bq=Ic (fun k=>df T (k-i)) T.length i bq
 | [],_,_=>rfl
 | x::T,i,bq=>by
   have e:∀ bq,Ic (fun k=>df (x::T) (k-i)) T.length (i+1) bq=Kh T (i+1) bq:=fun bq=>by
    rw [WN T (i+1) bq];refine O4 _ _ _ fun k al=>?_;show df (x::T) (k-i)=df T (k-(i+1));rw [show k-i=(k-(i+1))+1 by omega];rfl
   (have gb:df (x::T) (i-i)=x:=by rw [Nat.sub_self];rfl);(have aaf:∀ (T:List I) i,Kh T i []=T:=fun T i=>by cases T <;> rfl);cases bq with
   | nil =>
     show x::T=Ic _ (T.length+1) i [];rw [Ic,gb,e,aaf]
   | cons p r =>
     obtain ⟨j,v⟩:=p;show Kh (x::T) i ((j,v)::r)=Ic _ (T.length+1) i ((j,v)::r);rw [Kh,Ic];cases Nat.beq i j with
     | true=>exact congrArg _ (e r).symm
     | false=>show x::_=_::_;rw [gb,e]
theorem rO.ex {n:Nat} {bq:List (Nat×I)} {T:List I} (h:rO n bq T):∃ u,T=Ic u n 0 bq:=by
 obtain ⟨ab,ae⟩:=h;subst ab;exact ⟨_,ae.trans (WN T 0 bq)⟩
class Hz (d:Nat) (v:I):Prop where OC:cr d v=true
class qd (d:Nat) (l:List I):Prop where pl:l.all (cr d)=true
instance {d:Nat}:qd d []:=⟨rfl⟩
instance {d:Nat} {v:I} {l:List I} [a:Hz d v] [b:qd d l]:qd d (v::l):=⟨p4 a.OC b.pl⟩
instance {d:Nat} {a b:List I} [x:qd d a] [y:qd d b]:qd d (a++b):=⟨by rw [List.all_append,x.pl,y.pl];rfl⟩
instance {d:Nat} {α:Type} {f:α→I} {l:List α} [h:∀ x,Hz d (f x)]:qd d (l.map f):=⟨Vt (fun x=>(h x).OC) l⟩
instance {d:Nat} {α:Type} {f:α→List I} {l:List α} [h:∀ x,qd d (f x)]:qd d (l.flatMap f):=⟨by
 rw [sk];intro u hu;obtain ⟨x,_,aj⟩:=tG.1 hu
 exact sk.1 (h x).pl u aj⟩
instance {d:Nat} {k:IntKind} {n:Int}:Hz (d+1) (.int k n):=⟨rfl⟩
instance {d:Nat} {b:Bool}:Hz (d+1) (.bool b):=⟨rfl⟩
instance {d:Nat} {b:ByteArray}:Hz (d+1) (.str b):=⟨rfl⟩
instance {d:Nat}:Hz (d+1) .eI:=⟨rfl⟩
instance {d:Nat}:Hz (d+1) .a0:=⟨rfl⟩
instance {d n:Nat} {c:hE} {l:List I} [h:qd d l]:Hz (d+1) (.av l n c):=⟨h.pl⟩
instance {d:Nat} {l:List I} [h:qd d l]:Hz (d+1) (.agg l):=⟨h.pl⟩
instance {d:Nat} {l:List I} [h:qd d l]:Hz (d+1) (.tuple l):=⟨h.pl⟩
instance {d:Nat} {l:List I} [h:qd d l]:Hz (d+1) (.bS l):=⟨h.pl⟩
instance {d:Nat} {α:Type} {f:α→I} {l:List α} [h:∀ x,Hz d (f x)]:Hz (d+1) (Yy f l):=⟨Vt (fun x=>(h x).OC) l⟩
instance {d:Nat} {α:Type} {f:α→List I} {l:List α} [h:∀ x,qd d (f x)]:Hz (d+1) (Yz f l):=⟨(inferInstance:qd d (l.flatMap f)).pl⟩
instance {d:Nat} {l:List Int}:Hz (d+2) (oX l):=⟨(inferInstance:qd (d+1) (l.map h0)).pl⟩
instance {d:Nat} {l:List (List Int)}:Hz (d+3) (jx l):=⟨(inferInstance:qd (d+2) (l.map oX)).pl⟩
instance {d:Nat} {α:Type} {f:α→List I} {x:Option α} [h:∀ x,qd d (f x)]:Hz (d+1) (LW f x):=⟨Vs (fun x=>(h x).pl) x⟩
theorem q8 {p Vm:Prop} [Decidable p] {aV:Type} {k:Option aV} {v:aV} {K:Prop} (h:qI p k=some v) (f:p→Vm) (g:p→k=some v→K):Vm∧K :=
 ⟨f (Hj h).1,g (Hj h).1 (Hj h).2⟩
theorem bs {b:Bool} {aV:Type} {x y:Option aV} {v:aV} {K:Prop} (h:(if b=true then x else y)=some v) (f:b=true→x=some v→K) (g:b=false→y=some v→K):K :=
 match b,h,f,g with
 | true,h,f,_=>f rfl (Hp rfl h)
 | false,h,_,g=>g rfl (Ho rfl h)
theorem adr {d:Nat} {u:I} (h:cr d u.ha=true):cr d u=true:=by
 cases d with
 | zero=>simp [cr] at h
 | succ d=>cases u with
   | av cs n c=>cases c <;> exact h
   | _=>exact h
theorem Vr {d:Nat} {l:List I} (h:(l.map I.ha).all (cr d)=true):l.all (cr d)=true:=by
 rw [sk] at h ⊢;exact fun u hu=>adr (h _ (List.mem_map_of_mem hu))
theorem adq {d:Nat} {r:I} (h:cr d r.settle.view.cc=true) (aw:r.settle.view.cc.G4=false):cr d r=true:=by
 cases d with
 | zero=>simp [cr] at h
 | succ d=>cases r with
   | av cs n c=>cases c <;> exact h
   | agg cs=>exact Vr (l:=cs) h
   | tuple cs=>exact Vr (l:=cs) h
   | raw=>exact absurd aw (by simp [I.settle,I.view,I.cc,I.G4])
   | c3=>exact absurd aw (by simp [I.settle,I.view,I.cc,I.G4])
   | cm=>exact absurd h (by simp [I.settle,I.view,I.cc,cr])
   | _=>exact h
theorem Ib {rs:List H8} {v:I} {T:List I} {H:List ar} {vs:List I} [h:Hz 8 v] (ab:rB H T rs=some vs) (ae:(jg vs).settle.view.cc=v) (aw:v.G4=false:=by first | rfl | (simp [I.G4];done) | (cases ‹Option _› <;> rfl)):HQ rs v .ret T H :=
 ⟨.inr rfl,vs,ab,_,yW (adq (ae ▸ h.OC) (ae ▸ aw)),ae⟩
end Go.Proofs.Ytkoioidpbbbaiaa.Ab


namespace Go.Proofs.Ytkoioidpbbbaiaa.Ab
open Go
section
variable {P:Program} {A:dw} {fn:FuncId} {lo:Nat} {rl:Option Nat}
inductive agF (P:Program) (A:dw) (fn:FuncId) (lo:Nat) (rl:Option Nat) (rc:gE) (T:List I) (H:List ar) (Q:cQ→List I→List ar→Prop):Prop where
 | mk (cE:List Bool) (c:gE) (he:rc=.loop (some cE) c) (h0:Nat→List I→List ar→Prop) (m:Nat) (hm:m≤qn) (aQ:h0 m T H)
   (step:∀ (Hf:List I→List ar→Prop) m T H,h0 m T H→(∀ hr bf H',hr<m→h0 hr bf H'→Hf bf H')→ob T fun T=>dQ P A fn lo rl c T H fun e bf H'=>match e with
    | .normal=>xo (some cE) bf fun bf=>Hf bf H'
    | e=>Q e bf H')
end
theorem OE {cs:List I} {n d:Nat} {c:hE} (h:cs.all (cr d)=true):cr (d+1) (.av cs n c)=true:=h
def aeJ (l:List Int):I:=.av (l.map h0) l.length (if l.length=1 then .full else .shared)
end Go.Proofs.Ytkoioidpbbbaiaa.Ab


namespace Go.Proofs.Ytkoioidpbbbaiaa.Ab
open Go
instance {d:Nat} {p:Int×Int}:qd (d+1) (p7 p):=⟨(inferInstance:qd (d+1) [h0 p.1,h0 p.2]).pl⟩
instance {d:Nat} {l:List Int}:Hz (d+2) (aeJ l):=⟨(inferInstance:qd (d+1) (l.map h0)).pl⟩
end Go.Proofs.Ytkoioidpbbbaiaa.Ab


namespace Go.Proofs.Ytkoioidpbbbaiaa.Ab
open Go
abbrev qk:=List Int
abbrev qg:=List (Int×Int)
abbrev Ky:=List (List Int)
abbrev agE:=List (List (Int×Int))
abbrev agx:=Int×List (Int×Int)
abbrev H6:=cQ→List I→List ar→Prop
abbrev q3 (l:List Int) (c:hE):I:=.av (l.map h0) l.length c
abbrev q9 (l:List (Int×Int)) (c:hE):I:=.av (l.flatMap p7) l.length c
abbrev agJ (b:Int×List (Int×Int)):I:=.agg [h0 b.1,.av (b.2.flatMap p7) b.2.length .shared]
abbrev agK (b:Int×List (Int×Int)):ar:=ar.cells [h0 b.1,.av (b.2.flatMap p7) b.2.length .shared]
def qC {aV:Type} (rs:List H8) (Q:cQ→List I→List ar→Prop) (e:aV→I) (v:aV):Prop:=∀ T H,HQ rs (e v) .ret T H→Q .ret T H
theorem p9 {aV:Type} {x v:aV} {e:aV→I} {rs:List H8} {Q:cQ→List I→List ar→Prop} {T:List I} {H:List ar} {vs:List I} (h:some x=some v) (jJ:qC rs Q e v) [k:Hz 8 (e x)] (ab:rB H T rs=some vs) (ae:(jg vs).settle.view.cc=e x) (aw:(e x).G4=false:=by first | rfl | (simp [I.G4];done) | (cases ‹Option _› <;> rfl)):Q .ret T H:=by
 obtain rfl:=Option.some.inj h;exact jJ _ _ (Ib ab ae aw)
class qN (H:List ar) (i:Nat) (o:outParam ar):Prop where h:H[i]?=some o
instance {H:List ar} {o:ar}:qN (H++[o]) H.length o:=⟨IH _ _⟩
instance {H:List ar} {i:Nat} {o p:ar} [k:qN H i o]:qN (H++[p]) i o:=⟨T4 k.h⟩
end Go.Proofs.Ytkoioidpbbbaiaa.Ab


namespace Go.Proofs.Ytkoioidpbbbaiaa.Ab
open Go Go.ChangeShapes Go.WideShapes Go.ChangeAt Go.RowKit
def S0 (w:World):Nat→Nat→Prop:=fun b o=>∃ v,w.cell? ⟨b,o,none⟩=some v
theorem my (w:World):aK w.heap.size (fun _=>none) [] (S0 w) w [] :=
 ⟨rfl,fun _ _ h=>by simp at h,fun _ _ h=>h,fun _ _ h=>by simp at h,sb _⟩
theorem W2 {P:Program} {k:FuncId} {args:List I} {vs:List Value} {W:World} {b:Bool} (h:nn P k args (.bool b)) (ad:a5 (fun i=>.arg i) (fun _=>none) [] (S0 W) W args vs) :
  Calls P k vs.toArray W fun e Is=>e=.returned (.bool b)∧Below W.heap.size W Is:=by
 have ab:=h.1.2.2 W.heap.size (fun _=>none) [] (S0 W) W vs (my W) (fun _ _ h=>by simp at h) ad;refine (callsIn_wide.1 ab).mono fun e Is he=>?_;cases e with
 | returned v =>
   obtain ⟨ay,bV,S',_,az,_,ai,_⟩:=he;cases ai;exact ⟨rfl,az.os,az.tape,az.output,az.size,fun b af=>az.cE b af rfl⟩
 | panicked c=>exact he.elim
 | outgrown=>exact he.elim
section
variable {H:Type} {enc:TypeId×Value→H} {P:Program} {w:World}
theorem Su {W Is:World} (K:Kids P (·<P.types.size)) (bR:∀ t e,t<P.types.size→P.underlying t=some (.slice e)→0<P.cellsOf e) (I':Below W.heap.size W Is) {sp:Nat→Bool} :
  ∀ {ts:List TypeId} {vs:List Value} {fG:List (DataW H)} {p:List MemPlace},(∀ t∈ts,t<P.types.size)→DataW.TrodAll enc P W 0 (fun _=>true) true ts vs fG p→(∀ x∈p,sp x.block=true)→(∀ x∈p,x.block<W.heap.size)→DataW.TrodAll enc P Is 0 sp true ts vs fG p
 | [],_,_,_,_,aL,_,_=>by obtain ⟨rfl,rfl,rfl⟩:=trodAll_nil aL;exact trodAll_mk0
 | t::ts,_,_,_,b0,aL,LQ,aR=>by
   obtain ⟨v,vs,d,fG,a,b,rfl,rfl,rfl,⟨n,aI⟩,ae⟩:=trodAll_cons aL;refine ⟨a,b,⟨n,?_⟩,Su K bR I' (fun t ax=>b0 t (tO _ ax)) ae (fun x aj=>LQ x (vn _ aj)) (fun x aj=>aR x (vn _ aj)),rfl⟩;exact DataW.trod_stays K (fun {t e} ax he=>bR t e ax he) (fun h=>by cases h) (b0 t tU) aI (fun x aj=>I'.same (aR x (vo _ aj))) fun x aj=>LQ x (vo _ aj)
theorem Vp {f:Func} {s:ChangeSpec} {again:Bool} {W Is:World} {args:Array Value} {t:TypeId} {fG gs:List (DataW H)} {before:List MemPlace}
  (ao:laidOutB P=true) (hm:mapsRowed P=true) (bk:((List.range P.types.size).all fun t=>match P.underlying t with | some (.slice e)=>decide (0<P.cellsOf e) | _=>true)=true)
  (ax:f.resultTypes=#[t]) (T':P.underlying t=some .bool) (kR:f.params.toList.all (fun t=>decide (t<P.types.size))=true) (QO:s.vars=[])
  (mb:DataW.Whole enc P f.params.toList s.vars false W args.toList fG gs before) (I':Below W.heap.size W Is)
  (ah:s.fn H (fG++gs)={ results:=[.lit (.bool true)],args:=fG }):s.post enc P f false true false again W args (.bool true) Is:=by
 have aR:=mb.lt;have aaD:=mb;obtain ⟨p,q,aL,jK,rfl,C0,jV⟩:=aaD;rw [QO] at jK;obtain ⟨rfl,rfl⟩:=trodVars_none jK;rw [sM] at *;have K:Kids P (·<P.types.size):=kids_rows ao hm;have bR:=slices_full_of P bk;have b0:∀ t∈f.params.toList,t<P.types.size:=fun t h=>by
  have:=sk.1 kR t h;simpa using this
 have again:∀ sp:Nat→Bool,(∀ x∈p,sp x.block=true)→DataW.TrodAll enc P Is 0 sp true f.params.toList args.toList fG p:=fun sp LQ =>
  Su K bR I' b0 aL LQ aR
 have kT:∀ (b:Nat) (sp:Nat→Bool) (a1:Bool),DataW.TrodAll enc P Is b sp a1 f.resultTypes.toList ((Value.bool true).resultList f.resultTypes.size) (s.fn H fG).results []:=fun b sp a1=>by
  rw [ah,ax];exact trodAll_mk1 (shut_bool T' true)
 have CH:∀ sp:Nat→Bool,(∀ x∈p,sp x.block=true)→DataW.TrodAll enc P Is 0 sp true f.params.toList args.toList (s.fn H fG).args p:=fun sp LQ=>by
  rw [ah];exact again sp LQ
 have ad:∀ sp:Nat→Bool,DataW.TrodVars enc P Is sp s.vars (s.fn H fG).vars []:=fun sp=>by
  rw [ah,QO];rfl
 have hold:∀ x∈p,(fun b=>decide (b<W.heap.size)) x.block=true:=fun x aj=>by simpa using aR x aj
 refine ⟨fG,[],p,[],p,[],mb,by rw [sM];exact kT _ _ _,by rw [sM];exact CH _ hold,by rw [sM];exact ad _,I'.frame _,fun _=>?_⟩;refine ⟨fun j u r hu ai=>?_,(s.fn H fG).results++(s.fn H fG).args,[],p,⟨p,[],?_,?_,by simp,?_,fun h=>by cases h⟩,fun x aj _=>aj⟩
 ·rw [ax] at hu ai;cases j with
  | zero=>simp [Value.resultList] at hu ai;subst hu;subst ai;exact okWide_bool_mk T' true
  | succ j=>simp at hu
 ·have:=trodAll_append (CH (fun _=>true) fun _ _=>rfl) (kT 0 (fun _=>true) true);simpa using this
 ·rw [QO];rfl
 ·intro b o af;have:=aR _ af;rw [I'.frozen (p:=⟨b,o,none⟩) this];exact C0 b o af
theorem U3 {α:Type} {f:α→I} {R:α→Prop}:∀ {l:List I},(∀ u∈l,∃ x,u=f x∧R x)→∃ gx:List α,l=gx.map f∧∀ x∈gx,R x
 | [],_=>⟨[],rfl,by simp⟩
 | u::l,h=>by
   obtain ⟨x,rfl,aj⟩:=h u (by simp);obtain ⟨gx,rfl,bk⟩:=U3 (l:=l) fun y aY=>h y (by simp [aY]);exact ⟨x::gx,rfl,by simpa using ⟨aj,bk⟩⟩
abbrev Js (enc:TypeId×Value→H) (P:Program) (w:World) (e:TypeId) (Q:I→Prop):Prop :=
 ∀ n v y,DataW.trod enc P w 0 (fun _=>true) true n e [v]=some y→∃ u,u.plain=true∧v.oneCell'=true∧Rel [] (S0 w) w u v∧Q u
theorem Tt {e:TypeId} {k:IntKind} (ax:P.underlying e=some (.int k)):Js enc P w e fun u=>∃ x,u=.int k x∧(Lit.int k x).wf=true:=by
 intro n v y h;obtain ⟨x,aj,_,hw⟩:=DataW.trod_int ax h;injection aj with aj _;subst aj;exact ⟨.int k x,rfl,rfl,.int k x,x,rfl,hw⟩
instance:Inhabited I:=⟨.a0⟩
theorem ZL {t e:TypeId} (ax:P.underlying t=some (.slice e)) (ce:P.cellsOf e=1) {Q:I→Prop} (he:Js enc P w e Q) :
  Js enc P w t fun u=>∃ l:List I,u=.av l l.length .shared∧l.length≤maxLen∧∀ u∈l,Q u:=by
 intro fuel v x h;rcases Deep.open_slice1 ax ce h with ⟨ad,_⟩ | ⟨a,len,cap,m,n,V,D,PN,ad,_,ao,hm,pQ,_,aj⟩
 ·injection ad with ad _;subst ad;exact ⟨_,rfl,rfl,.b3 _ _,[],rfl,sC _,by simp⟩
 ·injection ad with ad _;subst ad;have pQ:m=cap:=pQ;have aj:∀ i,i<cap→w.cell? (a.add i)=some (V i)∧DataW.trod enc P w 0 (fun _=>true) true n e [V i]=some (D i,PN i):=fun i hi=>aj i (by omega);by_cases ak:cap=0
  ·(subst ak;obtain rfl:len=0:=by omega);exact ⟨_,rfl,rfl,.b3 _ _,[],rfl,sC _,by simp⟩
  ·obtain ⟨b,o,sp⟩:=a;have aQ:=(aj 0 (by omega)).1;(have ah:sp=none:=by simpa [Addr.add] using World.cell?_spot aQ);subst ah;obtain ⟨U,Hl⟩:=Deep.choose_lt (α:=I) (n:=len) (p:=fun i u=>u.plain=true∧(V i).oneCell'=true∧Rel [] (S0 w) w u (V i)∧Q u) fun i hi=>he n (V i) _ (aj i (by omega)).2;refine ⟨.av ((List.range len).map U) len .shared,rfl,rfl,.av _ _ _ b o cap V (by simp) ao (by simp) (fun j u aw=>?_) (fun j u aw=>?_),(List.range len).map U,by simp,by simp;omega,fun u hu=>?_⟩
   ·(have mo:j<len:=by have:=(r_.1 aw).1;simpa using this);simp [mo] at aw;subst aw;(have bz:w.cell? ⟨b,o+j,none⟩=some (V j):=by have:=(aj j (by omega)).1;rwa [add_lit] at this);exact ⟨⟨_,bz⟩,bz,(Hl j mo).1,(Hl j mo).2.1⟩
   ·(have mo:j<len:=by have:=(r_.1 aw).1;simpa using this);simp [mo] at aw;subst aw;exact (Hl j mo).2.2.1
   ·obtain ⟨j,aw,rfl⟩:=sA.1 hu;exact (Hl j (sE.1 aw)).2.2.2
def Ir (x:Int):Prop := -9223372036854775808≤x∧x≤9223372036854775807
theorem wf_i64 {x:Int} (h:(Lit.int .i64 x).wf=true):Ir x:=by
 have ab:IntKind.i64.min=-9223372036854775808:=rfl;have ae:IntKind.i64.max=9223372036854775807:=rfl;simp only [Lit.wf,sn,decide_eq_true_eq] at h;exact ⟨by omega,by omega⟩
structure PL (l:List Int):Prop where
 n:l.length≤9223372036854775807
 v:∀ x∈l,Ir x
structure agC (l:List (List Int)):Prop where
 n:l.length≤9223372036854775807
 v:∀ r∈l,PL r
theorem U5 {n:Nat} (h:n≤maxLen):n≤9223372036854775807:=by unfold maxLen at h;omega
theorem ZK {t e:TypeId} (ax:P.underlying t=some (.slice e)) (ce:P.cellsOf e=1) (he:P.underlying e=some (.int .i64)):Js enc P w t fun u=>∃ l,u=oX l∧PL l:=by
 intro n v y h;obtain ⟨u,aA,aG,aT,l,rfl,br,bg⟩:=ZL ax ce (Tt he) n v y h;obtain ⟨gx,rfl,bd⟩:=U3 bg;exact ⟨_,aA,aG,aT,gx,by simp [oX],by simpa using U5 br,fun x aj=>wf_i64 (bd x aj)⟩
def Sq (l:List Int):I:=.av (l.map (.int .u8)) l.length .shared
structure agD (l:List Int):Prop where
 n:l.length≤9223372036854775807
 v:∀ x∈l,0≤x∧x≤255
abbrev Arg (enc:TypeId×Value→H) (P:Program) (w:World) (base:Nat) (t:TypeId) (Q:I→Prop):Prop :=
 ∀ v d p,Value.okWide P w .any base t v→DataW.Trod enc P w 0 (fun _=>true) true t v d p→∃ u,u.plain=true∧Rel [] (S0 w) w u v∧Q u
theorem Zn {base:Nat} {t:TypeId} {k:IntKind} (ax:P.underlying t=some (.int k)):Arg enc P w base t fun u=>∃ x,u=.int k x∧(Lit.int k x).wf=true:=by
 intro v d p ad a1;obtain ⟨x,rfl,_,_,hw⟩:=open_int ax ad a1;exact ⟨.int k x,rfl,.int k x,x,rfl,hw⟩
theorem Zp {base:Nat} {t e:TypeId} (ax:P.underlying t=some (.slice e)) {Q:I→Prop} (ak:Js enc P w t Q):Arg enc P w base t Q:=by
 intro v d p ad ⟨n,a1⟩;obtain ⟨a,len,cap,rfl⟩:=okWide_slice ax ad;obtain ⟨u,aA,_,aT,br⟩:=ak n _ _ a1;exact ⟨u,aA,aT,br⟩
theorem afk:a5 (fun i=>.arg i) (fun _=>none) [] (S0 w) w [] []:=⟨rfl,by simp,by simp⟩
theorem afl {us:List I} {vs:List Value} (h:us.length=vs.length) (ai:∀ (i:Nat) (u:I) (v:Value),us[i]?=some u→vs[i]?=some v→u.plain=true∧Rel [] (S0 w) w u v):a5 (fun i=>.arg i) (fun _=>none) [] (S0 w) w us vs :=
 ⟨h,fun i u v hu ad=>(ai i u v hu ad).2,fun i u v hu ad=>aU.b4 (ai i u v hu ad).1⟩
theorem afn {yh fA gv:I} {v0 v1 v2:Value} (Q1:yh.plain=true) (hT:Rel [] (S0 w) w yh v0) (bU:fA.plain=true) (aS:Rel [] (S0 w) w fA v1) (b1:gv.plain=true) (bj:Rel [] (S0 w) w gv v2) :
  a5 (fun i=>.arg i) (fun _=>none) [] (S0 w) w [yh,fA,gv] [v0,v1,v2] :=
 afl rfl fun i u v hu ad=>by
  match i with
  | 0=>simp at hu ad;subst hu;subst ad;exact ⟨Q1,hT⟩
  | 1=>simp at hu ad;subst hu;subst ad;exact ⟨bU,aS⟩
  | 2=>simp at hu ad;subst hu;subst ad;exact ⟨b1,bj⟩
  | i+3=>simp at hu
end
end Go.Proofs.Ytkoioidpbbbaiaa.Ab


namespace Go.Proofs.Ytkoioidpbbbaiaa.Ab
open Go Go.ChangeShapes Go.WideShapes Go.ChangeAt Go.RowKit
section
variable {H:Type} {enc:TypeId×Value→H} {P:Program} {w:World}
theorem U4 {α β:Type} {f:α→β} {R:α→Prop}:∀ {l:List β},(∀ u∈l,∃ x,u=f x∧R x)→∃ gx:List α,l=gx.map f∧∀ x∈gx,R x
 | [],_=>⟨[],rfl,by simp⟩
 | u::l,h=>by
   obtain ⟨x,rfl,aj⟩:=h u (by simp);obtain ⟨gx,rfl,bk⟩:=U4 (l:=l) fun y aY=>h y (by simp [aY]);exact ⟨x::gx,rfl,by simpa using ⟨aj,bk⟩⟩
def N3 (enc:TypeId×Value→H) (P:Program) (w:World) (fs:Array Field) (H7:List (I→Prop)):Prop :=
 H7.length=fs.size∧∀ (i:Nat) (f:Field) (q:I→Prop),fs[i]?=some f→H7[i]?=some q→f.offset=i∧P.cellsOf f.type=1∧Js enc P w f.type q
def PJ (H7:List (I→Prop)) (us:List I):Prop:=us.length=H7.length∧∀ (i:Nat) (u:I) (q:I→Prop),us[i]?=some u→H7[i]?=some q→q u
theorem ae5 {t:TypeId} {fs:Array Field} {H7:List (I→Prop)} (ax:P.underlying t=some (.struct fs)) (ak:P.cellsOf t=fs.size) (aP:N3 enc P w fs H7) {n:Nat} {cs:List Value} {y:DataW H×List MemPlace}
  (h:DataW.trod enc P w 0 (fun _=>true) true n t cs=some y):∃ us:List I,PJ H7 us∧cs.length=us.length∧∀ (j:Nat) (u:I) (v:Value),us[j]?=some u→cs[j]?=some v→u.plain=true∧v.oneCell'=true∧Rel [] (S0 w) w u v:=by
 obtain ⟨xs,m,_,_,ao,QP,aj⟩:=DataW.trod_struct ax h;rw [ak] at ao;have each:∀ i,i<fs.size→∃ u:I,(∀ v,cs[i]?=some v→u.plain=true∧v.oneCell'=true∧Rel [] (S0 w) w u v)∧∀ q,H7[i]?=some q→q u:=fun i hi=>by
  have ab:fs[i]?=some fs[i]:=Array.getElem?_eq_getElem hi;have a_:i<H7.length:=by rw [aP.1];exact hi
  have ae:H7[i]?=some H7[i]:=sg a_;obtain ⟨e1,b',dA⟩:=aP.2 i _ _ ab ae;have aF:=aj i _ ab;rw [e1,b'] at aF;have Ud:i<cs.length:=by omega
  rw [s7 Ud,sg (by omega)] at aF;simp only [List.take_succ_cons,List.take_zero] at aF;obtain ⟨u,aA,aG,aT,br⟩:=dA _ _ _ aF;refine ⟨u,fun v ad=>?_,fun q Dr=>?_⟩
  ·rw [sg Ud] at ad;cases ad;exact ⟨aA,aG,aT⟩
  ·rw [ae] at Dr;cases Dr;exact br
 obtain ⟨U,Hl⟩:=Deep.choose_lt (α:=I) (n:=fs.size) (p:=fun i u=>(∀ v,cs[i]?=some v→u.plain=true∧v.oneCell'=true∧Rel [] (S0 w) w u v)∧∀ q,H7[i]?=some q→q u) each;have get:∀ (i:Nat) (u:I),((List.range fs.size).map U)[i]?=some u→i<fs.size∧u=U i:=fun i u hu=>by
  have hi:i<fs.size:=by have:=(r_.1 hu).1;simpa using this
  simp [hi] at hu;exact ⟨hi,hu.symm⟩
 refine ⟨(List.range fs.size).map U,⟨by simp [aP.1],fun i u q hu a_=>?_⟩,by simp [ao],fun j u v hu ad=>?_⟩
 ·obtain ⟨hi,rfl⟩:=get i u hu;exact (Hl i hi).2 q a_
 ·obtain ⟨hi,rfl⟩:=get j u hu;exact (Hl j hi).1 v ad
theorem TG {s:Nat}:∀ {L:List (List I)} {j:Nat} {u:I},(∀ l∈L,l.length=s)→0<s→L.flatten[j]?=some u→∃ l,L[j / s]?=some l∧l[j % s]?=some u
 | [],j,u,_,_,h=>by simp at h
 | l::L,j,u,ao,ah,h=>by
   have aQ:l.length=s:=ao l (by simp);rw [List.flatten_cons] at h;by_cases aw:j<s
   ·rw [sf (by omega)] at h;exact ⟨l,by rw [Nat.div_eq_of_lt aw];rfl,by rw [Nat.mod_eq_of_lt aw];exact h⟩
   ·rw [sr (by omega),aQ] at h;obtain ⟨k,a,b⟩:=TG (s:=s) (fun x aj=>ao x (by simp [aj])) ah h;(have e1:j / s=(j-s) / s+1:=by rw [Nat.div_eq_sub_div ah (by omega)]);(have b':j % s=(j-s) % s:=by rw [Nat.mod_eq_sub_mod (by omega)]);exact ⟨k,by rw [e1];simpa using a,by rw [b'];exact b⟩
end
end Go.Proofs.Ytkoioidpbbbaiaa.Ab


namespace Go.Proofs.Ytkoioidpbbbaiaa.Ab
open Go
instance {d:Nat} {l:List I} [h:qd d l]:qd d (l.map I.ha):=⟨by
 have h:=h.pl;rw [sk] at h ⊢;intro u hu;obtain ⟨v,ad,rfl⟩:=sA.1 hu;have:=h v ad;cases d with
 | zero=>simp [cr] at this
 | succ d=>cases v with
   | av cs n c=>cases c <;> exact this
   | _=>exact this⟩
end Go.Proofs.Ytkoioidpbbbaiaa.Ab


namespace Go.Proofs.Ytkoioidpbbbaiaa.Ab
open Go
def ql (x:(Int×(Int×Int))):List I:=[(h0 x.1),(h0 x.2.1),(h0 x.2.2)]
theorem HT (x:(Int×(Int×Int))):(ql x).length=3:=rfl
instance {d:Nat} {x:(Int×(Int×Int))}:qd (d+1) (ql x):=⟨(inferInstance:qd (d+1) [(h0 x.1),(h0 x.2.1),(h0 x.2.2)]).pl⟩
end Go.Proofs.Ytkoioidpbbbaiaa.Ab


namespace Go.Proofs.Ytkoioidpbbbaiaa.Ab
open Go Go.ChangeShapes Go.WideShapes Go.ChangeAt Go.RowKit
set_option maxRecDepth 100000
section
variable {H:Type} {enc:TypeId×Value→H} {P:Program} {w:World}
def IV (enc:TypeId×Value→H) (P:Program) (w:World) (t:TypeId) (bb:Nat) (Q:List I→Prop):Prop :=
 ∀ (fuel:Nat) (cs:List Value) (y:DataW H×List MemPlace),DataW.trod enc P w 0 (fun _=>true) true fuel t cs=some y →
   ∃ us:List I,Q us∧us.length=bb∧cs.length=bb∧∀ (j:Nat) (u:I) (v:Value),us[j]?=some u→cs[j]?=some v→u.plain=true∧v.oneCell'=true∧Rel [] (S0 w) w u v
theorem ZS {t:TypeId} {f1 f2:Field} {b7 cj:Nat} {oY lJ:List I→Prop} (ax:P.underlying t=some (.struct #[f1,f2])) (ak:P.cellsOf t=b7+cj) (bx:f1.offset=0) (bK:f2.offset=b7) (a7:P.cellsOf f1.type=b7) (a9:P.cellsOf f2.type=cj) (ab:IV enc P w f1.type b7 oY) (ae:IV enc P w f2.type cj lJ) :
  IV enc P w t (b7+cj) fun us=>∃ a b,us=a++b∧oY a∧lJ b:=by
 intro fuel cs y h;obtain ⟨xs,m,_,_,ao,QP,aj⟩:=DataW.trod_struct ax h;rw [ak] at ao;have QP:xs.length=2:=QP;have e1:=aj 0 f1 rfl;have b':=aj 1 f2 rfl;rw [bx,a7,tj,sg (by omega)] at e1;rw [bK,a9,sg (by omega)] at b';obtain ⟨a,aA,aG,aT,br⟩:=ab _ _ _ e1;obtain ⟨b,bm,cw,e2,lQ⟩:=ae _ _ _ b';refine ⟨a++b,⟨a,b,rfl,aA,bm⟩,by rw [sB];omega,ao,fun j u v hu ad=>?_⟩;by_cases aw:j<b7
 ·rw [sf (by omega)] at hu;exact br j u v hu (by rw [sH,if_pos aw];exact ad)
 ·rw [sr (by omega)] at hu;have ag8:j-a.length<b.length:=(r_.1 hu).1;refine lQ (j-a.length) u v hu ?_;rw [sH,if_pos (by omega),sN,show b7+(j-a.length)=j by omega];exact ad
theorem ZQ {t:TypeId} {Q:I→Prop} (h:Js enc P w t Q) (ah:∀ (fuel:Nat) (cs:List Value) (y:DataW H×List MemPlace),DataW.trod enc P w 0 (fun _=>true) true fuel t cs=some y→cs.length=1):IV enc P w t 1 fun us=>∃ u,us=[u]∧Q u:=by
 intro fuel cs y aY;have ao:=ah _ _ _ aY
 match cs,ao with
 | [c],_ =>
   obtain ⟨u,aA,aG,aT,br⟩:=h _ _ _ aY;refine ⟨[u],⟨u,rfl,br⟩,rfl,rfl,fun j bH v hu ad=>?_⟩
   match j with
   | 0=>simp at hu ad;subst hu;subst ad;exact ⟨aA,aG,aT⟩
   | j+1=>simp at hu
theorem Tu {t:TypeId} {fs:Array Field} {H7:List (I→Prop)} (ax:P.underlying t=some (.struct fs)) (ak:P.cellsOf t=fs.size) (aP:N3 enc P w fs H7):IV enc P w t fs.size (PJ H7):=fun fuel cs y h=>by
 obtain ⟨us,ab,ae,aF⟩:=ae5 ax ak aP h;have:=ab.1;have:=aP.1;exact ⟨us,ab,by omega,by omega,aF⟩
theorem Zl {base:Nat} {t:TypeId} {fs:Array Field} {bb:Nat} {Q:List I→Prop} (ax:P.underlying t=some (.struct fs)) (aP:IV enc P w t bb Q):Arg enc P w base t fun u=>∃ us,u=.agg us∧Q us:=by
 intro v d p ad ⟨n,a1⟩;unfold Value.okWide at ad;rw [ax] at ad;obtain ⟨cs,rfl,bR,_⟩:=ad;obtain ⟨us,ab,ae,GL,aF⟩:=aP _ _ _ a1;have ae:cs.toList.length=us.length:=by rw [ae];exact GL
 refine ⟨.agg us,rfl,.agg us cs (by simpa using ae) (fun u hu=>?_) (fun v ad=>?_) fun j u v hu ad=>?_,us,rfl,ab⟩
 ·obtain ⟨j,aw⟩:=sV.1 hu;have aR:j<cs.toList.length:=by rw [ae];exact (r_.1 aw).1
  exact (aF j u _ aw (sg aR)).1
 ·obtain ⟨j,aw⟩:=sV.1 ad;have aR:j<us.length:=by rw [←ae];exact (r_.1 aw).1
  exact (aF j _ v (sg aR) aw).2.1
 ·exact (aF j u v hu (by show cs.toList[j]?=some v;simpa using ad)).2.2
theorem ZM {t e:TypeId} {bb:Nat} {Q:List I→Prop} (ax:P.underlying t=some (.slice e)) (ak:P.cellsOf e=bb) (aQ:0<bb) (aP:IV enc P w e bb Q) :
  Js enc P w t fun u=>∃ L:List (List I),u=.av L.flatten L.length .shared∧L.length≤maxLen∧∀ us∈L,Q us:=by
 intro fuel v x h;rcases Deep.open_slice ax h with ⟨ad,_⟩ | ⟨a,len,cap,m,n,D,PN,ad,_,ao,hm,pQ,_,aj⟩
 ·injection ad with ad _;subst ad;exact ⟨_,rfl,rfl,.b3 _ _,[],rfl,sC _,by simp⟩
 ·injection ad with ad _;subst ad;have pQ:m=cap:=pQ;by_cases CL:cap=0
  ·(subst CL;obtain rfl:len=0:=by omega);exact ⟨_,rfl,rfl,.b3 _ _,[],rfl,sC _,by simp⟩
  ·have each:∀ i,i<len→∃ q:List I×List Value,Q q.1∧q.1.length=bb∧q.2.length=bb∧w.cells? 0 (a.add (i*bb)) bb=some q.2∧∀ (j:Nat) (u:I) (v:Value),q.1[j]?=some u→q.2[j]?=some v→u.plain=true∧v.oneCell'=true∧Rel [] (S0 w) w u v:=fun i hi=>by
    obtain ⟨c_,ab,ae⟩:=aj i (by omega);rw [ak] at ab;obtain ⟨us,bm,cw,e2,lQ⟩:=aP _ _ _ ae;exact ⟨(us,c_),bm,cw,e2,ab,lQ⟩
   obtain ⟨q0,_,_,Ov,_⟩:∃ q:List Value,True∧True∧w.cells? 0 (a.add (0*bb)) bb=some q∧True:=by
    obtain ⟨c_,ab,_⟩:=aj 0 (by omega);rw [ak] at ab;exact ⟨c_,trivial,trivial,ab,trivial⟩
   obtain ⟨b,o,sp⟩:=a;have ah:sp=none:=by
    obtain ⟨_,hlen,bz⟩:=World.cells?_some Ov;have:=bz 0 aQ;rw [sg (by omega)] at this;simpa [Addr.add] using World.cell?_spot this
   subst ah;obtain ⟨U,Hl⟩:=Deep.choose_lt (α:=List I×List Value) (n:=len) (p:=fun i q=>Q q.1∧q.1.length=bb∧q.2.length=bb∧w.cells? 0 (Addr.add ⟨b,o,none⟩ (i*bb)) bb=some q.2∧∀ (j:Nat) (u:I) (v:Value),q.1[j]?=some u→q.2[j]?=some v→u.plain=true∧v.oneCell'=true∧Rel [] (S0 w) w u v) each;have aaC:∀ i,i<len→(U i).1.length=bb:=fun i hi=>(Hl i hi).2.1;have c1:∀ l∈((List.range len).map fun i=>(U i).1),l.length=bb:=fun l c'=>by
    obtain ⟨i,hi,rfl⟩:=sA.1 c';exact aaC i (sE.1 hi)
   let V:Nat→Value:=fun j=>((U (j / bb)).2)[j % bb]!
   have key:∀ (j:Nat) (u:I),(((List.range len).map fun i=>(U i).1).flatten)[j]?=some u→w.cell? ⟨b,o+j,none⟩=some (V j)∧u.plain=true∧(V j).oneCell'=true∧Rel [] (S0 w) w u (V j):=fun j u aw=>by
    obtain ⟨l,cf,ca⟩:=TG c1 aQ aw;(have hi:j / bb<len:=by have:=(r_.1 cf).1;simpa using this);simp [hi] at cf;subst cf;obtain ⟨a7,B8,a9,bt,b6⟩:=Hl _ hi;have J_:j % bb<bb:=Nat.mod_lt _ aQ;have ad:(U (j / bb)).2[j % bb]?=some (V j):=by
     show _=some ((U (j / bb)).2[j % bb]!);rw [sg (by omega),getElem!_pos _ _ (by omega)]
    obtain ⟨_,_,bz⟩:=World.cells?_some bt;have JM:=bz (j % bb) J_;rw [ad] at JM;have e:(Addr.add (Addr.add ⟨b,o,none⟩ (j / bb*bb)) (j % bb))=⟨b,o+j,none⟩:=by
     simp only [add_lit];congr 1;have:=Nat.div_add_mod' j bb;omega
    rw [e] at JM;exact ⟨JM,b6 _ _ _ ca ad⟩
   refine ⟨.av ((List.range len).map fun i=>(U i).1).flatten len .shared,rfl,rfl,.av _ _ _ b o cap V (by simp) ao (by simp) (fun j u aw=>?_) (fun j u aw=>?_),(List.range len).map fun i=>(U i).1,by simp,by simp;omega,fun us hu=>?_⟩
   ·obtain ⟨aJ,aN,cb,_⟩:=key j u aw;exact ⟨⟨_,aJ⟩,aJ,aN,cb⟩
   ·exact (key j u aw).2.2.2
   ·obtain ⟨j,aw,rfl⟩:=sA.1 hu;exact (Hl j (sE.1 aw)).1
end
section
variable {H:Type} {enc:TypeId×Value→H} {w:World} {base:Nat}
def Kz:I→Prop:=fun u=>∃ x,u=h0 x∧Ir x
theorem Oa:Js enc Try.prog w 2 Kz:=fun n v y h=>by
 obtain ⟨u,a,b,c,x,rfl,d⟩:=Tt (P:=Try.prog) Try.underlying2 n v y h;exact ⟨_,a,b,c,x,rfl,wf_i64 d⟩
theorem Vn {us:List I} (h:PJ [Kz,Kz] us):∃ p:Int×Int,us=p7 p∧Ir p.1∧Ir p.2:=by
 obtain ⟨ao,h⟩:=h
 match us,ao with
 | [a,b],_ =>
   obtain ⟨x,rfl,aj⟩:=h 0 _ _ rfl rfl;obtain ⟨y,rfl,aY⟩:=h 1 _ _ rfl rfl;exact ⟨(x,y),rfl,aj,aY⟩
def Sn (us:List I):Prop:=∃ p:Int×Int,us=p7 p∧Ir p.1∧Ir p.2
theorem IV.mono {P:Program} {t:TypeId} {n:Nat} {Q R:List I→Prop} (h:IV enc P w t n Q) (k:∀ us,Q us→R us):IV enc P w t n R:=fun fuel cs y aY=>by
 obtain ⟨us,ab,ae⟩:=h fuel cs y aY;exact ⟨us,k us ab,ae⟩
theorem aaj : N3 enc Try.prog w #[{ name := "Pull", type := 2, offset := 0, embedded := false, tag := "", pkgPath := "", byteOffset := 0 }, { name := "More", type := 2, offset := 1, embedded := false, tag := "", pkgPath := "", byteOffset := 8 }] [Kz, Kz] := ⟨rfl, fun i f q aP a_ => by
 match i with
 | 0=>simp at aP a_;subst aP;subst a_;exact ⟨rfl,by kernel_rfl,Oa⟩
 | 1=>simp at aP a_;subst aP;subst a_;exact ⟨rfl,by kernel_rfl,Oa⟩
 | i+2=>simp at a_⟩
theorem aai : N3 enc Try.prog w #[{ name := "Lo", type := 2, offset := 0, embedded := false, tag := "", pkgPath := "", byteOffset := 0 }, { name := "Hi", type := 2, offset := 1, embedded := false, tag := "", pkgPath := "", byteOffset := 8 }] [Kz, Kz] := ⟨rfl, fun i f q aP a_ => by
 match i with
 | 0=>simp at aP a_;subst aP;subst a_;exact ⟨rfl,by kernel_rfl,Oa⟩
 | 1=>simp at aP a_;subst aP;subst a_;exact ⟨rfl,by kernel_rfl,Oa⟩
 | i+2=>simp at a_⟩
theorem ZR:IV enc Try.prog w 52 2 Sn:=(Tu Try.underlying52 (by kernel_rfl) aaj).mono fun _ h=>Vn h
theorem ZP:IV enc Try.prog w 24 2 Sn:=(Tu Try.underlying24 (by kernel_rfl) aai).mono fun _ h=>Vn h
def Sl (bq:List (Int×Int)):Prop:=bq.length≤9223372036854775807∧∀ p∈bq,Ir p.1∧Ir p.2
abbrev Sm (bq:List (Int×Int)):I:=.av (bq.flatMap p7) bq.length .shared
theorem ZN:Js enc Try.prog w 22 fun u=>∃ bq,u=Sm bq∧Sl bq:=fun n v y h=>by
 obtain ⟨u,a,b,c,L,rfl,ao,fq⟩:=ZM Try.underlying22 (by kernel_rfl) (by decide) ZR n v y h;obtain ⟨bq,rfl,aB⟩:=U4 (f:=p7) (R:=fun p:Int×Int=>Ir p.1∧Ir p.2) fun us hu=>by
  obtain ⟨p,e,ab,ae⟩:=fq us hu;exact ⟨p,e,ab,ae⟩
 refine ⟨_,a,b,c,bq,?_,by have:=U5 ao;simpa using this,aB⟩;simp [Sm,List.flatMap_def]
structure Yw (p:(List (Int×Int))×(Int×Int)):Prop where
 s:Sl p.1
 lo:Ir p.2.1
 hi:Ir p.2.2
theorem ade (fuel:Nat) (cs:List Value) (y:DataW H×List MemPlace) (h:DataW.trod enc Try.prog w 0 (fun _=>true) true fuel 22 cs=some y):cs.length=1:=by
 rcases Deep.open_slice Try.underlying22 h with ⟨ad,_⟩ | ⟨a,len,cap,m,n,D,PN,ad,_⟩
 ·rw [ad];rfl
 ·rw [ad];rfl
theorem Zo:Arg enc Try.prog w base 26 fun u=>∃ p:(List (Int×Int))×(Int×Int),u=.agg [.av (p.1.flatMap p7) p.1.length .shared,h0 p.2.1,h0 p.2.2]∧Yw p:=by
 intro v d p ad a1;obtain ⟨u,a,b,us,rfl,x,y,rfl,⟨fA,rfl,bq,rfl,kR⟩,⟨aac,rfl,ab,ae⟩⟩:=Zl (P:=Try.prog) (enc:=enc) (w:=w) (base:=base) Try.underlying26 (ZS Try.underlying26 (by kernel_rfl) rfl rfl (by kernel_rfl) (by kernel_rfl) (ZQ ZN ade) ZP) v d p ad a1;exact ⟨_,a,b,(bq,aac),rfl,kR,ab,ae⟩
theorem Zk:Arg enc Try.prog w base 27 fun u=>∃ l,u=oX l∧PL l:=Zp Try.underlying27 (ZK Try.underlying27 (by kernel_rfl) Try.underlying3)
end
end Go.Proofs.Ytkoioidpbbbaiaa.Ab


namespace Go.Proofs.Ytkoioidpbbbaiaa.Ab
open Go Go.ChangeShapes Go.WideShapes Go.ChangeAt Go.RowKit
set_option maxRecDepth 100000
section
variable {H:Type} {enc:TypeId×Value→H} {w:World} {base:Nat}
theorem Zm:Arg enc Try.prog w base 2 fun u=>∃ x,u=h0 x∧Ir x:=fun v d p ad a1=>by
 obtain ⟨u,a,b,x,rfl,h⟩:=Zn (P:=Try.prog) (enc:=enc) (w:=w) (base:=base) Try.underlying2 v d p ad a1;exact ⟨_,a,b,x,rfl,wf_i64 h⟩
end
end Go.Proofs.Ytkoioidpbbbaiaa.Ab


namespace Go.Proofs.Ytkoioidpbbbaiaa.Ab
open Go
set_option maxRecDepth 20000
set_option maxHeartbeats 4000000
noncomputable def Yr:gE :=
 p2 [p' 4 0] (p2 [p1 5 1,p1 6 0,p0 7 [.Bs 6] .z4,qv 8 7 0,qv 9 8 0,qf 10 9,qW 11 10,qu 12 11 2 .quo,qs 13 5 12 .sub,p1 4 13] .ret)
theorem acS:qj Try.prog Tc 68=some (Yr,14,[.tmp 4]):=by kernel_rfl
def JZ (b:((qg×(Int×Int))×Unit)) (JQ:Int):Option Int :=
 qI ((2:Int)≠0) <|
 some (w (JQ-(w ((b.1.1.length:Int).tdiv (2:Int)))))
theorem Kw {b:((qg×(Int×Int))×Unit)} {JQ:Int} {v:Int} (h:JZ b JQ=some v):qt 68 [(.bS [(.av (b.1.1.flatMap p7) b.1.1.length .shared),(h0 b.1.2.1),(h0 b.1.2.2),Hf]),(h0 JQ)] (h0 v):=by
 refine qD eG acS rfl rfl fun Q bp=>?_;have jJ:qC [.tmp 4] Q (fun v=>(h0 v)) v:=fun T H bE=>bp _ T H bE;unfold JZ at h;unfold Yr;conv=>whnf
 refine q8 h id fun gM h=>?_;conv=>whnf
 exact p9 h jJ rfl rfl

noncomputable def Pv:gE :=
 .loop (some (p_ false [0,2,5,2,10])) (p2 [p0 9 [.nc 8,.nc 7] (.bin .lss)] (.seq (.cond (.nc 9) .skip (.exit 0)) (.seq (.block 1 (p2 [p3 10 8,p1 5 10] (p2 [p3 11 1,p3 12 0,p3 13 5,rn 14 12 13 1,qf 15 14,qs 16 11 15 .eql] (.cond (.nc 16) (p2 [p1 17 5,p1 4 17] .ret) .skip)))) (qM [qU 18 8 1,p1 8 18]))))
noncomputable def XV:gE :=
 p2 [p' 4 0] (.seq (p2 [p3 6 0,qW 7 6,p' 8 0] (.block 0 Pv)) (p2 [p' 4 (-1)] .ret))
theorem aci:qj Try.prog P5 90=some (XV,19,[.tmp 4]):=by kernel_rfl
def Kk (s:qk) (H3:Int) (qe:Unit→Option Int):Nat→Int→Option Int
 | 0,_=>none
 | m+1,s1 =>
   if (decide (s1<(s.length:Int)))=true then
    qI (0≤s1∧s1<(s.length:Int)) <|
    if (decide (H3=(ix s s1)))=true then
     some s1
    else
     Kk s H3 qe m (w (s1+(1:Int)))
   else
    qe ()
def Pd (s:qk) (H3:Int):Option Int :=
 Kk s H3 (fun _ =>
   some (-1:Int)) qn (0:Int)
theorem afK {s:qk} {H3:Int} {qe:Unit→Option Int} {s1:Int} {v:Int} {Q:H6}   (jJ:qC [.tmp 4] Q (fun v=>(h0 v)) v) (ry:∀ (qh:List I),qe ()=some v→rO 19 [] qh→Q (.exit 0) qh []) {T:List I} (b0:eZ (p_ false [0,2,5,2,10]) T=qb 19 [(0,(q3 s .shared)),(1,(h0 H3)),(7,(h0 (s.length:Int))),(8,(h0 s1))]) (h:Kk s H3 qe qn s1=some v) :
  dQ Try.prog P5 90 0 none Pv T [] Q:=by
 unfold Pv;refine wp_loop b0 ?_;refine .intro (fun m T H=>∃ (s1:Int),T=qb 19 [(0,(q3 s .shared)),(1,(h0 H3)),(7,(h0 (s.length:Int))),(8,(h0 s1))]∧H=[]∧Kk s H3 qe m s1=some v) qn ⟨s1,rfl,rfl,h⟩ ?_;clear h b0;rintro m T H ⟨s1,rfl,rfl,h⟩;cases m
 ·exact Hr h
 rename_i m;rw [Kk.eq_2] at h;conv=>whnf
 refine bs h (fun gM h=>?_) fun gM h=>?_
 ·rw [gM];conv=>whnf
  refine q8 h id fun gN h=>?_;rw [rD h0 s s1 gN];conv=>whnf
  refine bs h (fun qp h=>?_) fun qp h=>?_
  ·rw [qp];(conv=>whnf);exact p9 h jJ rfl rfl
  ·rw [qp];(conv=>whnf);exact ⟨m,sG m,(w (s1+(1:Int))),rfl,rfl,h⟩
 ·rw [gM];conv=>whnf
  exact ry  _ h ⟨rfl,rfl⟩
theorem afL {s:qk} {H3:Int} {v:Int} (h:Pd s H3=some v):qt 90 [(.av (s.map h0) s.length .shared),(h0 H3)] (h0 v):=by
 refine qD eG aci rfl rfl fun Q bp=>?_;have jJ:qC [.tmp 4] Q (fun v=>(h0 v)) v:=fun T H bE=>bp _ T H bE;unfold Pd at h;unfold XV;obtain ⟨H9,qG⟩:∃ c,Pv=c:=⟨_,rfl⟩;rw [qG];conv=>whnf
 subst qG;refine afK ?_ ?_ (by exact rfl) h
 ·exact fun T H bE=>jJ T H bE
 ·intro  qh h qK;obtain ⟨rT,rfl⟩:=qK.ex;conv=>whnf
  exact p9 h jJ rfl rfl

noncomputable def XT:gE :=
 p2 [p0 4 [.cv (.bool false)] .mU] (p2 [p1 5 0,p1 6 1,p0 7 [.cv (.func 90 [] []),.nc 5,.nc 6] (.call 3),qu 8 7 0 .geq,p1 4 8] .ret)
theorem acg:qj Try.prog Th 77=some (XT,9,[.tmp 4]):=by kernel_rfl
def NF (s:qk) (H3:Int):Option Bool :=
 (Pd s H3).bind fun aS =>
 some (decide ((0:Int)≤aS))
theorem afH {s:qk} {H3:Int} {v:Bool} (h:NF s H3=some v):qt 77 [(.av (s.map h0) s.length .shared),(h0 H3)] (B v):=by
 refine qD eG acg rfl rfl fun Q bp=>?_;have jJ:qC [.tmp 4] Q (fun v=>(B v)) v:=fun T H bE=>bp _ T H bE;unfold NF at h;unfold XT;conv=>whnf
 obtain ⟨aS,gM,h⟩:=p8 h;refine ⟨qd.pl,_,afL gM,?_⟩;conv=>whnf
 exact p9 h jJ rfl rfl

noncomputable def Sc:gE :=
 .ov true [p0 47 [.nc 9] (.yM 1),qf 48 47,p3 49 0,p1 50 10,p0 51 [.cv (.func 68 [] []),.nc 49,.nc 50] (.call 3),qv 52 12 1,qf 53 52,qs 54 51 53 .mul,qs 55 48 54 .add,p0 56 [.nc 9] (.yM 1),⟨none,[.jq 56,.jq 55],none,none,.st 1⟩]
noncomputable def Sj:gE :=
 .seq (qT [p0 37 [.nc 9] (.yM 0),qf 38 37,p3 39 0,p3 40 10,p0 41 [.cv (.func 68 [] []),.nc 39,.nc 40] (.call 3),p0 42 [.nc 12] (.yM 0),qf 43 42,qs 44 41 43 .mul,qs 45 38 44 .add,p0 46 [.nc 9] (.yM 0),⟨none,[.jq 46,.jq 45],none,none,.st 1⟩]) Sc
noncomputable def Si:gE :=
 .seq (p2 [p3 20 10,qu 21 20 2 .rem,p3 22 2,qs 23 21 22 .neq,p1 24 23,cl 25 [.nc 3] 24 false .mU,cl 26 [.nc 10] 24 false .mU,⟨some 27,[.cv (.func 77 [] []),.nc 25,.nc 26],some (24,false),none,.call 3⟩,p0 28 [.Bs 24,.cv (.bool true),.Bs 27] .pick] (.cond (.nc 28) (.exit 1) .skip)) (p2 [p3 29 0,p0 30 [.Bs 29] .z4,qv 31 30 0,qv 32 31 0,qf 33 32,p1 34 11,rn 35 33 34 2,p0 36 [.Bs 35] (.zE (.str 2)),p0 12 [] (.alloc [.int .i64 0,.int .i64 0]),⟨none,[.nc 12,.jq 36],none,none,.st 2⟩] Sj)
noncomputable def N2:gE :=
 .ov false [qU 57 15 1,p1 15 57]
noncomputable def Sh:gE :=
 .seq (.block 1 (p2 [p3 17 15,p0 18 [.nc 13,.nc 15] (.kY 1),qf 19 18,p1 10 17,p1 11 19] Si)) N2
noncomputable def Sg:gE :=
 .seq (.cond (.nc 16) .skip (.exit 0)) Sh
noncomputable def PH:gE :=
 .loop (some (p_ false [0,1,1,2,4,2,3,3,43])) (p2 [p0 16 [.nc 15,.nc 14] (.bin .lss)] Sg)
noncomputable def Sf:gE :=
 .block 0 PH
noncomputable def Se:gE :=
 p2 [p0 58 [.Bs 9] (.zE (.str 2)),⟨none,[.nc 8,.jq 58],none,none,.st 2⟩] .ret
noncomputable def Sd:gE :=
 .seq (p2 [p1 13 1,p0 14 [.nc 13] .zJ,p' 15 0] Sf) Se
noncomputable def Sb:gE :=
 p2 [p0 9 [] (.alloc [.int .i64 0,.int .i64 0])] Sd
noncomputable def Ys:gE :=
 p2 [p0 8 [] (.alloc [.int .i64 0,.int .i64 0])] Sb
theorem acT:qj Try.prog P2 62=some (Ys,59,[.cell 8 (.str 2)]):=by kernel_rfl
def J0 (b:((qg×(Int×Int))×Unit)) (order:qk) (qq:Int) (without:qk) (qe:Int→Int→Option (Int×Int)):Nat→Int→Int→Int→Option (Int×Int)
 | 0,_,_,_=>none
 | m+1,s1,s2,dk =>
   if (decide (s1<(order.length:Int)))=true then
    qI (0≤s1∧s1<(order.length:Int)) <|
    qI ((2:Int)≠0) <|
    if (decide ((s1.tmod (2:Int))≠qq))=true then
     J0 b order qq without qe m (w (s1+(1:Int))) s2 dk
    else
     (NF without s1).bind fun aS =>
     if aS=true then
      J0 b order qq without qe m (w (s1+(1:Int))) s2 dk
     else
      qI (0≤(ix order s1)∧(ix order s1)<(b.1.1.length:Int)) <|
      (JZ (b.1,()) s1).bind fun bj =>
      (JZ (b.1,()) s1).bind fun eK =>
      J0 b order qq without qe m (w (s1+(1:Int))) (w (s2+(w (bj*(ix b.1.1 (ix order s1)).1)))) (w (dk+(w (eK*(ix b.1.1 (ix order s1)).2))))
   else
    qe s2 dk
def Lw (b:((qg×(Int×Int))×Unit)) (order:qk) (qq:Int) (without:qk):Option (Int×Int) :=
 J0 b order qq without (fun yn oT =>
   some (yn,oT)) qn (0:Int) (0:Int) (0:Int)
theorem agp {b:((qg×(Int×Int))×Unit)} {order:qk} {qq:Int} {without:qk} {qe:Int→Int→Option (Int×Int)} {s1:Int} {s2:Int} {dk:Int} {v:(Int×Int)} {Q:H6}   (ry:∀ (yn oT:Int) (J3:List ar) (qh:List I),qe yn oT=some v→rO 59 [(8,(.ptr 0 0)),(9,(.ptr 1 0))] qh→Q (.exit 0) qh (ar.cells [(h0 (0:Int)),(h0 (0:Int))]::ar.cells [(h0 yn),(h0 oT)]::J3)) {T:List I} (b0:eZ (p_ false [0,1,1,2,4,2,3,3,43]) T=qb 59 [(0,(.bS [(q9 b.1.1 .shared),(h0 b.1.2.1),(h0 b.1.2.2),Hf])),(2,(h0 qq)),(3,(q3 without .shared)),(8,(.ptr 0 0)),(9,(.ptr 1 0)),(13,(q3 order .shared)),(14,(h0 (order.length:Int))),(15,(h0 s1))]) (h:J0 b order qq without qe qn s1 s2 dk=some v) :
  dQ Try.prog P2 62 0 none PH T [ar.cells [(h0 (0:Int)),(h0 (0:Int))],ar.cells [(h0 s2),(h0 dk)]] Q:=by
 unfold PH;obtain ⟨agU,T0⟩:∃ c,Sg=c:=⟨_,rfl⟩;rw [T0];refine wp_loop b0 ?_;refine .intro (fun m T H=>∃ (s1 s2 dk:Int) (St:List ar),T=qb 59 [(0,(.bS [(q9 b.1.1 .shared),(h0 b.1.2.1),(h0 b.1.2.2),Hf])),(2,(h0 qq)),(3,(q3 without .shared)),(8,(.ptr 0 0)),(9,(.ptr 1 0)),(13,(q3 order .shared)),(14,(h0 (order.length:Int))),(15,(h0 s1))]∧H=(ar.cells [(h0 (0:Int)),(h0 (0:Int))]::ar.cells [(h0 s2),(h0 dk)]::St)∧J0 b order qq without qe m s1 s2 dk=some v) qn ⟨s1,s2,dk,[],rfl,rfl,h⟩ ?_;clear h b0;rintro m T H ⟨s1,s2,dk,St,rfl,rfl,h⟩;cases m
 ·exact Hr h
 rename_i m;rw [J0.eq_2] at h;conv=>whnf
 subst T0;unfold Sg;obtain ⟨agV,T1⟩:∃ c,Sh=c:=⟨_,rfl⟩;rw [T1];conv=>whnf
 refine bs h (fun gM h=>?_) fun gM h=>?_
 ·rw [gM];conv=>whnf
  subst T1;unfold Sh;obtain ⟨agW,Om⟩:∃ c,N2=c:=⟨_,rfl⟩;rw [Om];obtain ⟨agX,T2⟩:∃ c,Si=c:=⟨_,rfl⟩;rw [T2];conv=>whnf
  refine q8 h id fun gN h=>?_;rw [rD h0 order s1 gN];conv=>whnf
  subst T2;unfold Si;obtain ⟨agY,T3⟩:∃ c,Sj=c:=⟨_,rfl⟩;rw [T3];conv=>whnf
  refine q8 h id fun qp h=>?_;conv=>whnf
  refine bs h (fun qE h=>?_) fun qE h=>?_
  ·rw [qE];(conv=>whnf);subst Om;unfold N2;(conv=>whnf);exact ⟨m,sG m,(w (s1+(1:Int))),s2,dk,_,rfl,rfl,h⟩
  ·rw [qE];(conv=>whnf);obtain ⟨aS,qX,h⟩:=p8 h;refine ⟨qd.pl,_,afH qX,?_⟩;(conv=>whnf);cases aS
   ·(conv=>whnf);replace h:=Ho rfl h;refine q8 h id fun rG h=>?_;rw [IY p7 2 LY b.1.1 (ix order s1) rG];(conv=>whnf);refine Ew (x:=ar.cells [(h0 (0:Int)),(h0 (0:Int))]) (by first | exact qN.h | rfl | (simp [sm,I.settle];done)) ?_
    (conv=>whnf);rw [HO];subst T3;unfold Sj;obtain ⟨agQ,TW⟩:∃ c,Sc=c:=⟨_,rfl⟩;rw [TW];(conv=>whnf);obtain ⟨bj,qR,h⟩:=p8 h;refine ⟨qd.pl,_,Kw qR,q',?_⟩;(conv=>whnf);refine Ew (x:=ar.cells [(h0 (ix b.1.1 (ix order s1)).1),(h0 (ix b.1.1 (ix order s1)).2)]) (by first | exact qN.h | rfl | (simp [sm,I.settle];done)) ?_
    (conv=>whnf);subst TW;unfold Sc;(conv=>whnf);obtain ⟨eK,rU,h⟩:=p8 h;refine ⟨qd.pl,_,Kw rU,q',?_⟩;(conv=>whnf);refine Ew (x:=ar.cells [(h0 (ix b.1.1 (ix order s1)).1),(h0 (ix b.1.1 (ix order s1)).2)]) (by first | exact qN.h | rfl | (simp [sm,I.settle];done)) ?_
    (conv=>whnf);subst Om;unfold N2;(conv=>whnf);exact ⟨m,sG m,(w (s1+(1:Int))),(w (s2+(w (bj*(ix b.1.1 (ix order s1)).1)))),(w (dk+(w (eK*(ix b.1.1 (ix order s1)).2)))),_,rfl,rfl,h⟩
   ·(conv=>whnf);replace h:=Hp rfl h;subst Om;unfold N2;(conv=>whnf);exact ⟨m,sG m,(w (s1+(1:Int))),s2,dk,_,rfl,rfl,h⟩
 ·rw [gM];conv=>whnf
  exact ry _ _ _ _ h ⟨rfl,rfl⟩
theorem Pt {b:((qg×(Int×Int))×Unit)} {order:qk} {qq:Int} {without:qk} {v:(Int×Int)} (h:Lw b order qq without=some v):qt 62 [(.bS [(.av (b.1.1.flatMap p7) b.1.1.length .shared),(h0 b.1.2.1),(h0 b.1.2.2),Hf]),(.av (order.map h0) order.length .shared),(h0 qq),(.av (without.map h0) without.length .shared)] (.agg [(h0 v.1),(h0 v.2)]):=by
 refine qD eG acT rfl (HS (p4 rfl (p4 rfl rfl))) fun Q bp=>?_;have jJ:qC [.cell 8 (.str 2)] Q (fun v=>(.agg [(h0 v.1),(h0 v.2)])) v:=fun T H bE=>bp _ T H bE;unfold Lw at h;unfold Ys;obtain ⟨H9,qG⟩:∃ c,Sb=c:=⟨_,rfl⟩;rw [qG];conv=>whnf
 subst qG;unfold Sb;obtain ⟨LH,Hi⟩:∃ c,Sd=c:=⟨_,rfl⟩;rw [Hi];conv=>whnf
 subst Hi;unfold Sd;obtain ⟨agS,TY⟩:∃ c,Se=c:=⟨_,rfl⟩;rw [TY];obtain ⟨agT,TZ⟩:∃ c,Sf=c:=⟨_,rfl⟩;rw [TZ];conv=>whnf
 subst TZ;unfold Sf;obtain ⟨agR,TX⟩:∃ c,PH=c:=⟨_,rfl⟩;rw [TX];conv=>whnf
 subst TX;refine agp ?_ (by exact rfl) h;intro yn oT J3 qh h qK;obtain ⟨rT,rfl⟩:=qK.ex;conv=>whnf
 subst TY;unfold Se;conv=>whnf
 exact p9 h jJ rfl rfl
end Go.Proofs.Ytkoioidpbbbaiaa.Ab


namespace Go.Proofs.Ytkoioidpbbbaiaa.Ab
open Go
noncomputable def ad8:gE :=
 .ov false [p1 18 8,p0 19 [.nc 9] (.yM 0),qf 20 19,qv 21 9 1,qf 22 21,p3 23 2,qs 24 22 23 .mul,qs 25 20 24 .add,p0 26 [.nc 7,.Bs 18] (.zu 2 1),⟨none,[.jq 26,.jq 25],none,none,.st 1⟩]
noncomputable def ad9:gE :=
 p2 [p3 14 0,p3 15 1,p3 16 8,p0 17 [.cv (.func 62 [] []),.nc 14,.nc 15,.nc 16,.cv (.av [] 0 .full)] (.call 3),p0 9 [] (.alloc [.int .i64 0,.int .i64 0]),⟨none,[.nc 9,.jq 17],none,none,.st 2⟩] ad8
noncomputable def ad_:gE :=
 .block 1 (p2 [p3 13 11,p1 8 13] ad9)
noncomputable def aea:gE :=
 .seq (p2 [p' 11 0] (.block 0 (.loop (some (p_ false [0,3,3,2,3,1,17])) (p2 [p0 12 [.nc 11,.cv (.int .i64 2)] (.bin .lss)] (.seq (.cond (.nc 12) .skip (.exit 0)) (.seq ad_ (qM [qU 27 11 1,p1 11 27]))))))) (p2 [p0 28 [.Bs 7] (.zE (.arr 2)),⟨none,[.nc 6,.jq 28],none,none,.st 2⟩] .ret)
noncomputable def Wb:gE :=
 p2 [p0 6 [] (.alloc [.int .i64 0, .int .i64 0])] (p2 [p0 7 [] (.alloc [.int .i64 0, .int .i64 0])] (p2 [p0 10 [.nc 7] (.other (Oper.mk (some 10) (Op.slice 66 (Operand.tmp 7) none none none) 98 "press.go:44" (Array.mk []) none) 0), ⟨none, [.jq 10], none, none, .other (Oper.mk none (Op.call (Call.mk (Callee.builtin Builtin.clear) (Array.mk [Operand.tmp 10]) (Array.mk [98]))) 0 "press.go:44" (Array.mk [Edge.mk 0 Ground.data]) none) 0⟩] aea))
theorem abY:qj Go.Proofs.Try.prog SU 38=some (Wb,29,[.cell 6 (.arr 2)]):=by kernel_rfl
noncomputable def adT:gE :=
 .ov false [p1 35 5,p3 36 9,p1 37 9,p0 38 [.Bs 37] (.un .neg),p0 39 [.jq 35,.jq 36,.jq 38] .max,p1 5 39]
noncomputable def adU:gE :=
 .block 3 (p2 [p0 34 [.nc 31, .nc 32] (.other (Oper.mk (some 34) (Op.index 66 (Operand.tmp 31) (Operand.tmp 32)) 2 "press.go:56" (Array.mk []) none) 0), p1 9 34] adT)
noncomputable def adV:gE :=
 p2 [p3 28 0,p3 29 1,p1 30 7,p0 31 [.cv (.func 38 [] []),.nc 28,.nc 29,.nc 30] (.call 3),p' 32 0] (.block 2 (.loop (some (p_ false [0,2,3,1,16,3,6,2,10])) (p2 [p0 33 [.nc 32,.cv (.int .i64 2)] (.bin .lss)] (.seq (.cond (.nc 33) .skip (.exit 2)) (.seq adU (qM [qU 40 32 1,p1 32 40]))))))
noncomputable def adW:gE :=
 .block 1 (p2 [p0 26 [.nc 22,.nc 24] (.kY 1),qf 27 26,p1 7 27] adV)
noncomputable def adX:gE :=
 .seq (.seq (qT [p3 10 0,p0 11 [.Bs 10] .z4,qv 12 11 0,qv 13 12 1,qv 14 13 0,qf 15 14,p3 16 0,p0 17 [.Bs 16] .z4,qv 18 17 0,qv 19 18 1,qv 20 19 1,qf 21 20,p0 22 [.Bs 15,.Bs 21] (.yB 2 1 [.int .i64 0] [0,1]),p0 23 [.nc 22] .zJ,p' 24 0]) (.block 0 (.loop (some (p_ false [0,2,3,1,16,3,18])) (p2 [p0 25 [.nc 24,.nc 23] (.bin .lss)] (.seq (.cond (.nc 25) .skip (.exit 0)) (.seq adW (qM [qU 41 24 1,p1 24 41]))))))) (p2 [p1 42 5,p1 4 42] .ret)
noncomputable def VZ:gE :=
 p2 [p' 4 0] (p2 [p' 5 0] adX)
theorem abS:qj Go.Proofs.Try.prog SV 41=some (VZ,43,[.tmp 4]):=by kernel_rfl
end Go.Proofs.Ytkoioidpbbbaiaa.Ab


namespace Go.Proofs.Ytkoioidpbbbaiaa.Ab
open Go
theorem aal {H:List ar} {id d:Nat} {l r:List I} (h:H[id]?=some (.cells l)) (hm:ea (bM H 0 H.length 0 d) (l.map I.view)=some r):bM H 0 H.length 0 (d+1) (.ptr id 0)=some (.bS r):=by
 have ab:=(r_.1 h).1;simp only [bM,Nat.not_lt_zero,if_false,h,tj,hm,sd];rw [if_neg (by omega)]
theorem TN {H:List ar} {lo id0 n d id:Nat} (h:¬ id<lo) (aX:id≠id0):bM H lo id0 n (d+1) (.map id)=some .a0:=by
 simp only [bM,if_neg h,if_neg aX]
end Go.Proofs.Ytkoioidpbbbaiaa.Ab


namespace Go.Proofs.Ytkoioidpbbbaiaa.Ab
open Go
set_option maxRecDepth 20000
set_option maxHeartbeats 4000000
def Ls (b:((List (Int×Int))×(Int×Int))×Unit) (order:List Int) (qL:Int):Option (Int×Int) :=
 (Lw b order 0 []).bind fun s=>(Lw b order 1 []).bind fun t=>some (w (s.1+w (s.2*qL)),w (t.1+w (t.2*qL)))
abbrev lp (b:((List (Int×Int))×(Int×Int))×Unit):I:=.bS [.av (b.1.1.flatMap p7) b.1.1.length .shared,h0 b.1.2.1,h0 b.1.2.2,Hf]
theorem R9 {b:((List (Int×Int))×(Int×Int))×Unit} {order:List Int} {qL:Int} {v:Int×Int} (h:Ls b order qL=some v):qt 38 [lp b,.av (order.map h0) order.length .shared,h0 qL] (.agg [h0 v.1,h0 v.2]):=by
 unfold Ls at h;obtain ⟨s,ah,h⟩:=p8 h;obtain ⟨t,ax,h⟩:=p8 h;obtain rfl:=Option.some.inj h;refine qD eG abY rfl (HS (p4 rfl (p4 rfl rfl))) fun Q bp=>?_;unfold Wb;conv=>whnf
 refine ⟨_,_,fun C=>rfl,?_⟩;conv=>whnf
 refine ⟨_,_,fun C=>rfl,?_⟩;conv=>whnf
 refine .intro (fun m T H=>(m=2∧T=qb 29 [(0,lp b),(1,.av (order.map h0) order.length .shared),(2,h0 qL),(6,.ptr 0 0),(7,.ptr 1 0),(11,h0 0)]∧H=[.cells [h0 0,h0 0],.cells [h0 0,h0 0]]) ∨
  (m=1∧T=qb 29 [(0,lp b),(1,.av (order.map h0) order.length .shared),(2,h0 qL),(6,.ptr 0 0),(7,.ptr 1 0),(11,h0 1)]∧H=[.cells [h0 0,h0 0],.cells [h0 (w (s.1+w (s.2*qL))),h0 0],.cells [h0 s.1,h0 s.2]]) ∨
  (m=0∧T=qb 29 [(0,lp b),(1,.av (order.map h0) order.length .shared),(2,h0 qL),(6,.ptr 0 0),(7,.ptr 1 0),(11,h0 2)]∧H=[.cells [h0 0,h0 0],.cells [h0 (w (s.1+w (s.2*qL))),h0 (w (t.1+w (t.2*qL)))],.cells [h0 s.1,h0 s.2],.cells [h0 t.1,h0 t.2]])) 2 (.inl ⟨rfl,rfl,rfl⟩) ?_
 rintro m T H (⟨rfl,rfl,rfl⟩ | ⟨rfl,rfl,rfl⟩ | ⟨rfl,rfl,rfl⟩)
 ·conv=>whnf
  refine ⟨qd.pl,_,Pt ah,?_⟩;conv=>whnf
  refine ⟨by decide,?_⟩;conv=>whnf
  exact ⟨1,by decide,.inr (.inl ⟨rfl,rfl,rfl⟩)⟩
 ·conv=>whnf
  refine ⟨qd.pl,_,Pt ax,?_⟩;conv=>whnf
  refine ⟨by decide,?_⟩;conv=>whnf
  exact ⟨0,by decide,.inr (.inr ⟨rfl,rfl,rfl⟩)⟩
 ·conv=>whnf
  refine ⟨sb 2,?_⟩;conv=>whnf
  refine bp _ _ _ ?_;exact ⟨.inr rfl,[.agg [h0 (w (s.1+w (s.2*qL))),h0 (w (t.1+w (t.2*qL)))]],rfl,_,yW (HS (p4 rfl (p4 rfl rfl))),rfl⟩
def JY (b:((List (Int×Int))×(Int×Int))×Unit) (order:List Int):Option Int :=
 (Ls b order b.1.2.1).bind fun s=>(Ls b order b.1.2.2).bind fun t =>
  some (max (max (max (max (max (max (max (max 0 s.1) (w (-s.1))) s.2) (w (-s.2))) t.1) (w (-t.1))) t.2) (w (-t.2)))
theorem NS {b:((List (Int×Int))×(Int×Int))×Unit} {order:List Int} {v:Int} (h:JY b order=some v):qt 41 [lp b,.av (order.map h0) order.length .shared] (h0 v):=by
 unfold JY at h;obtain ⟨s,ah,h⟩:=p8 h;obtain ⟨t,ax,h⟩:=p8 h;obtain rfl:=Option.some.inj h;refine qD eG abS rfl rfl fun Q bp=>?_;unfold VZ;conv=>whnf
 refine .intro (fun m T H=>(m=2∧T=qb 43 [(0,lp b),(1,.av (order.map h0) order.length .shared),(5,h0 0),(22,.av [h0 b.1.2.1,h0 b.1.2.2] 2 (.own 1)),(23,h0 2),(24,h0 0)]∧H=[])∨(m=1∧T=qb 43 [(0,lp b),(1,.av (order.map h0) order.length .shared),(5,h0 (max (max (max (max 0 s.1) (w (-s.1))) s.2) (w (-s.2)))),(22,.av [h0 b.1.2.1,h0 b.1.2.2] 2 (.own 1)),(23,h0 2),(24,h0 1)]∧H=[])∨(m=0∧T=qb 43 [(0,lp b),(1,.av (order.map h0) order.length .shared),(5,h0 (max (max (max (max (max (max (max (max 0 s.1) (w (-s.1))) s.2) (w (-s.2))) t.1) (w (-t.1))) t.2) (w (-t.2)))),(22,.av [h0 b.1.2.1,h0 b.1.2.2] 2 (.own 1)),(23,h0 2),(24,h0 2)]∧H=[])) 2 (.inl ⟨rfl,rfl,rfl⟩) ?_;rintro m T H (⟨rfl,rfl,rfl⟩ | ⟨rfl,rfl,rfl⟩ | ⟨rfl,rfl,rfl⟩)
 ·conv=>whnf
  refine ⟨by decide,?_⟩;conv=>whnf
  refine ⟨qd.pl,_,R9 ah,?_⟩;conv=>whnf
  refine .intro (fun m T H=>(m=2∧T=qb 43 [(0,lp b),(1,.av (order.map h0) order.length .shared),(5,h0 0),(22,.av [h0 b.1.2.1,h0 b.1.2.2] 2 (.own 1)),(23,h0 2),(24,h0 0),(31,.agg [h0 s.1,h0 s.2]),(32,h0 0)]∧H=[])∨(m=1∧T=qb 43 [(0,lp b),(1,.av (order.map h0) order.length .shared),(5,h0 (max (max 0 s.1) (w (-s.1)))),(22,.av [h0 b.1.2.1,h0 b.1.2.2] 2 (.own 1)),(23,h0 2),(24,h0 0),(31,.agg [h0 s.1,h0 s.2]),(32,h0 1)]∧H=[])∨(m=0∧T=qb 43 [(0,lp b),(1,.av (order.map h0) order.length .shared),(5,h0 (max (max (max (max 0 s.1) (w (-s.1))) s.2) (w (-s.2)))),(22,.av [h0 b.1.2.1,h0 b.1.2.2] 2 (.own 1)),(23,h0 2),(24,h0 0),(31,.agg [h0 s.1,h0 s.2]),(32,h0 2)]∧H=[])) 2 (.inl ⟨rfl,rfl,rfl⟩) ?_;rintro m T H (⟨rfl,rfl,rfl⟩ | ⟨rfl,rfl,rfl⟩ | ⟨rfl,rfl,rfl⟩)
  ·(conv=>whnf);refine ⟨_,_,fun C=>rfl,?_⟩;(conv=>whnf);exact ⟨1,by decide,.inr (.inl ⟨rfl,rfl,rfl⟩)⟩
  ·(conv=>whnf);refine ⟨_,_,fun C=>rfl,?_⟩;(conv=>whnf);exact ⟨0,by decide,.inr (.inr ⟨rfl,rfl,rfl⟩)⟩
  ·(conv=>whnf);exact ⟨1,by decide,.inr (.inl ⟨rfl,rfl,rfl⟩)⟩
 ·conv=>whnf
  refine ⟨by decide,?_⟩;conv=>whnf
  refine ⟨qd.pl,_,R9 ax,?_⟩;conv=>whnf
  refine .intro (fun m T H=>(m=2∧T=qb 43 [(0,lp b),(1,.av (order.map h0) order.length .shared),(5,h0 (max (max (max (max 0 s.1) (w (-s.1))) s.2) (w (-s.2)))),(22,.av [h0 b.1.2.1,h0 b.1.2.2] 2 (.own 1)),(23,h0 2),(24,h0 1),(31,.agg [h0 t.1,h0 t.2]),(32,h0 0)]∧H=[])∨(m=1∧T=qb 43 [(0,lp b),(1,.av (order.map h0) order.length .shared),(5,h0 (max (max (max (max (max (max 0 s.1) (w (-s.1))) s.2) (w (-s.2))) t.1) (w (-t.1)))),(22,.av [h0 b.1.2.1,h0 b.1.2.2] 2 (.own 1)),(23,h0 2),(24,h0 1),(31,.agg [h0 t.1,h0 t.2]),(32,h0 1)]∧H=[])∨(m=0∧T=qb 43 [(0,lp b),(1,.av (order.map h0) order.length .shared),(5,h0 (max (max (max (max (max (max (max (max 0 s.1) (w (-s.1))) s.2) (w (-s.2))) t.1) (w (-t.1))) t.2) (w (-t.2)))),(22,.av [h0 b.1.2.1,h0 b.1.2.2] 2 (.own 1)),(23,h0 2),(24,h0 1),(31,.agg [h0 t.1,h0 t.2]),(32,h0 2)]∧H=[])) 2 (.inl ⟨rfl,rfl,rfl⟩) ?_;rintro m T H (⟨rfl,rfl,rfl⟩ | ⟨rfl,rfl,rfl⟩ | ⟨rfl,rfl,rfl⟩)
  ·(conv=>whnf);refine ⟨_,_,fun C=>rfl,?_⟩;(conv=>whnf);exact ⟨1,by decide,.inr (.inl ⟨rfl,rfl,rfl⟩)⟩
  ·(conv=>whnf);refine ⟨_,_,fun C=>rfl,?_⟩;(conv=>whnf);exact ⟨0,by decide,.inr (.inr ⟨rfl,rfl,rfl⟩)⟩
  ·(conv=>whnf);exact ⟨0,by decide,.inr (.inr ⟨rfl,rfl,rfl⟩)⟩
 ·conv=>whnf
  exact bp _ _ _ ⟨.inr rfl,_,rfl,_,yW rfl,rfl⟩

noncomputable def Yt:gE :=
 p2 [p' 4 0] (p2 [p1 5 0,p1 6 1,qu 7 6 2 .quo,qs 8 5 7 .sub,p1 4 8] .ret)
theorem acU:qj Try.prog Ta 63=some (Yt,9,[.tmp 4]):=by kernel_rfl
def MC (JQ K3:Int):Option Int :=
 qI ((2:Int)≠0) <|
 some (w (JQ-(w (K3.tdiv (2:Int)))))
theorem ags {JQ:Int} {K3:Int} {v:Int} (h:MC JQ K3=some v):qt 63 [(h0 JQ),(h0 K3)] (h0 v):=by
 refine qD eG acU rfl rfl fun Q bp=>?_;have jJ:qC [.tmp 4] Q (fun v=>(h0 v)) v:=fun T H bE=>bp _ T H bE;unfold MC at h;unfold Yt;conv=>whnf
 refine q8 h id fun gM h=>?_;conv=>whnf
 exact p9 h jJ rfl rfl

noncomputable def PE:gE :=
 .loop (some (p_ false [1,4,4,2,34])) (.seq (p2 [p3 12 10,p3 13 1,qW 14 13,qs 15 12 14 .lss] (.cond (.nc 15) .skip (.exit 0))) (.seq (.block 1 (p2 [p3 18 10,qu 19 18 2 .rem,p3 20 3,qs 21 19 20 .eql] (.cond (.nc 21) (.seq (qT [p0 22 [.nc 4] (.yM 0),qf 23 22,p3 24 1,p3 25 10,rn 26 24 25 1,qf 27 26,rn 28 23 27 2,p0 29 [.Bs 28] (.zE (.str 2)),p0 11 [] (.alloc [.int .i64 0,.int .i64 0]),⟨none,[.nc 11,.jq 29],none,none,.st 2⟩]) (qT [p1 30 9,p3 31 10,p3 32 1,qW 33 32,p0 34 [.cv (.func 63 [] []),.nc 31,.nc 33] (.call 3),p0 35 [.nc 11] (.yM 0),qf 36 35,p0 37 [.nc 11] (.yM 1),qf 38 37,p3 39 2,qs 40 38 39 .mul,qs 41 36 40 .add,qs 42 34 41 .mul,qs 43 30 42 .add,p1 9 43])) .skip))) (qM [p1 16 10,qU 17 16 1,p1 10 17])))
noncomputable def Yl:gE :=
 p2 [p0 4 [.jq 0] .box,p' 8 0] (p2 [p' 9 0] (.seq (p2 [p' 10 0] (.block 0 PE)) (p2 [p1 44 9,p1 8 44] .ret)))
theorem acM:qj Try.prog PX 40=some (Yl,45,[.tmp 8]):=by kernel_rfl
def Ku (p:(qg×(Int×Int))) (order:qk) (qL qq:Int) (qe:Int→Option Int):Nat→Int→Int→Option Int
 | 0,_,_=>none
 | m+1,s1,s2 =>
   if (decide (s2<(order.length:Int)))=true then
    qI ((2:Int)≠0) <|
    if (decide ((s2.tmod (2:Int))=qq))=true then
     qI (0≤s2∧s2<(order.length:Int)) <|
     qI (0≤(ix order s2)∧(ix order s2)<(p.1.length:Int)) <|
     (MC s2 (order.length:Int)).bind fun aS =>
     Ku p order qL qq qe m (w (s1+(w (aS*(w ((ix p.1 (ix order s2)).1+(w ((ix p.1 (ix order s2)).2*qL)))))))) (w (s2+(1:Int)))
    else
     Ku p order qL qq qe m s1 (w (s2+(1:Int)))
   else
    qe s1
def Jr (p:(qg×(Int×Int))) (order:qk) (qL qq:Int):Option Int :=
 Ku p order qL qq (fun yn =>
   some yn) qn (0:Int) (0:Int)
theorem agj {p:(qg×(Int×Int))} {order:qk} {qL:Int} {qq:Int} {qe:Int→Option Int} {s1:Int} {s2:Int} {v:Int} {Q:H6}   (ry:∀ (yn:Int) (bx:ar) (J3:List ar) (qh:List I),qe yn=some v→rO 45 [(9,(h0 yn))] qh→Q (.exit 0) qh (bx::J3)) {T:List I} (b0:eZ (p_ false [1,4,4,2,34]) T=qb 45 [(1,(q3 order .shared)),(2,(h0 qL)),(3,(h0 qq)),(4,(.ptr 0 0)),(9,(h0 s1)),(10,(h0 s2))]) (h:Ku p order qL qq qe qn s1 s2=some v) :
  dQ Try.prog PX 40 0 none PE T [ar.cells [(q9 p.1 .shared),(h0 p.2.1),(h0 p.2.2)]] Q:=by
 unfold PE;refine wp_loop b0 ?_;refine .intro (fun m T H=>∃ (s1 s2:Int) (Ss:List ar),T=qb 45 [(1,(q3 order .shared)),(2,(h0 qL)),(3,(h0 qq)),(4,(.ptr 0 0)),(9,(h0 s1)),(10,(h0 s2))]∧H=(ar.cells [(q9 p.1 .shared),(h0 p.2.1),(h0 p.2.2)]::Ss)∧Ku p order qL qq qe m s1 s2=some v) qn ⟨s1,s2,[],rfl,rfl,h⟩ ?_;clear h b0;rintro m T H ⟨s1,s2,Ss,rfl,rfl,h⟩;cases m
 ·exact Hr h
 rename_i m;rw [Ku.eq_2] at h;conv=>whnf
 refine bs h (fun gM h=>?_) fun gM h=>?_
 ·rw [gM];conv=>whnf
  refine q8 h id fun gN h=>?_;conv=>whnf
  refine bs h (fun qp h=>?_) fun qp h=>?_
  ·rw [qp];(conv=>whnf);refine q8 h id fun qE h=>?_;rw [rD h0 order s2 qE];(conv=>whnf);refine q8 h id fun qX h=>?_;rw [IY p7 2 LY p.1 (ix order s2) qX];(conv=>whnf);refine Ew (x:=ar.cells [(h0 (0:Int)),(h0 (0:Int))]) (by first | exact qN.h | rfl | (simp [sm,I.settle];done)) ?_
   (conv=>whnf);rw [HO];obtain ⟨aS,rG,h⟩:=p8 h;refine ⟨(p4 rfl (p4 rfl rfl)),_,ags rG,q',?_⟩;(conv=>whnf);refine Ew (x:=ar.cells [(h0 (ix p.1 (ix order s2)).1),(h0 (ix p.1 (ix order s2)).2)]) (by first | exact qN.h | rfl | (simp [sm,I.settle];done)) ?_
   (conv=>whnf);refine Ew (x:=ar.cells [(h0 (ix p.1 (ix order s2)).1),(h0 (ix p.1 (ix order s2)).2)]) (by first | exact qN.h | rfl | (simp [sm,I.settle];done)) ?_
   (conv=>whnf);exact ⟨m,sG m,(w (s1+(w (aS*(w ((ix p.1 (ix order s2)).1+(w ((ix p.1 (ix order s2)).2*qL)))))))),(w (s2+(1:Int))),_,rfl,rfl,h⟩
  ·rw [qp];(conv=>whnf);exact ⟨m,sG m,s1,(w (s2+(1:Int))),_,rfl,rfl,h⟩
 ·rw [gM];conv=>whnf
  exact ry _ _ _ _ h ⟨rfl,rfl⟩
theorem Pm {p:(qg×(Int×Int))} {order:qk} {qL:Int} {qq:Int} {v:Int} (h:Jr p order qL qq=some v):qt 40 [(.agg [(.av (p.1.flatMap p7) p.1.length .shared),(h0 p.2.1),(h0 p.2.2)]),(.av (order.map h0) order.length .shared),(h0 qL),(h0 qq)] (h0 v):=by
 refine qD eG acM rfl rfl fun Q bp=>?_;have jJ:qC [.tmp 8] Q (fun v=>(h0 v)) v:=fun T H bE=>bp _ T H bE;unfold Jr at h;unfold Yl;obtain ⟨H9,qG⟩:∃ c,PE=c:=⟨_,rfl⟩;rw [qG];conv=>whnf
 subst qG;refine agj ?_ (by exact rfl) h;intro yn bx J3 qh h qK;obtain ⟨rT,rfl⟩:=qK.ex;conv=>whnf
 exact p9 h jJ rfl rfl
end Go.Proofs.Ytkoioidpbbbaiaa.Ab


namespace Go.Proofs.Ytkoioidpbbbaiaa.Ab
open Go
set_option maxRecDepth 20000
set_option maxHeartbeats 1000000
abbrev qw:=Int×Int
def qP:Nat→(Nat→Int)→Int
 | 0,_=>0
 | n+1,g=>qP n g+g n
theorem Nz {n:Nat} {g h:Nat→Int} (e:∀ i,i<n→g i=h i):qP n g=qP n h:=by
 induction n with
 | zero=>rfl
 | succ n a8=>simp only [qP];rw [a8 fun i hi=>e i (by omega),e n (by omega)]
theorem Ny {n:Nat} {g:Nat→Int} {B:Int} (e:∀ i,i<n → -B≤g i∧g i≤B):-(n*B)≤qP n g∧qP n g≤n*B:=by
 induction n with
 | zero=>simp [qP]
 | succ n a8 =>
   obtain ⟨ab,ae⟩:=a8 fun i hi=>e i (by omega);obtain ⟨aF,ba⟩:=e n (by omega);simp only [qP]
   have:((n+1:Nat):Int)*B=n*B+B:=by rw [Int.natCast_add,Int.add_mul];simp
   omega
theorem ae6 (n:Nat) (g h:Nat→Int):qP n (fun i=>g i+h i)=qP n g+qP n h:=by
 induction n with
 | zero=>rfl
 | succ n a8=>simp only [qP,a8];omega
theorem WV (n:Nat) (g:Nat→Int) (c:Int):qP n (fun i=>c*g i)=c*qP n g:=by
 induction n with
 | zero=>simp [qP]
 | succ n a8=>simp only [qP,a8,Int.mul_add]
theorem HZ {a b A B:Int} (h:-A≤a∧a≤A) (k:-B≤b∧b≤B):-(A*B)≤a*b∧a*b≤A*B:=by
 have ab:a.natAbs*b.natAbs≤A.natAbs*B.natAbs:=Nat.mul_le_mul (by omega) (by omega);have ae:(a*b).natAbs≤A.natAbs*B.natAbs:=by rw [Int.natAbs_mul];exact ab
 have aF:((A.natAbs*B.natAbs:Nat):Int)=A*B:=by
  rw [Int.natCast_mul,Int.natAbs_of_nonneg (by omega),Int.natAbs_of_nonneg (by omega)]
 omega
def qA (S:List qw) (o:List Int) (i:Nat):qw:=ix S (ix o (i:Int))
def qz (n i:Nat):Int:=(i:Int)-((n / 2:Nat):Int)
def qB (S:List qw) (o:List Int) (a:Nat) (W:List Int) (f:qw→Int):Int:=qP o.length fun i=>if i % 2=a∧(i:Int) ∉ W then qz o.length i*f (qA S o i) else 0
def rH (S:List qw) (o:List Int) (a:Nat) (f:qw→Int):Int:=qP o.length fun i=>if i % 2=a then qz o.length i*f (qA S o i) else 0
theorem M8 (S:List qw) (o:List Int) (a:Nat) (f:qw→Int):qB S o a [] f=rH S o a f:=Nz fun i _=>by simp
def JF (S:List qw) (o:List Int):Prop:=∀ i:Nat,i<o.length→0≤ix o (i:Int)∧ix o (i:Int)<(S.length:Int)
def qH (s:qw):Prop:=0≤s.1∧s.1≤100∧-10≤s.2∧s.2≤10
instance (s:qw):Decidable (qH s):=by unfold qH;exact inferInstance
theorem IM {S:List qw} {o:List Int} (cp:∀ s∈S,qH s) (jJ:JF S o) {i:Nat} (hi:i<o.length):qH (qA S o i):=cp _ (J' (jJ i hi))
def qZ (d:Int) (s:qw):Int:=s.1+s.2*d
theorem LC {d:Int} {s:qw} (ah:qH s) (a1:0≤d∧d≤50):-600≤qZ d s∧qZ d s≤600:=by
 have:=HZ (a:=s.2) (b:=d) (A:=10) (B:=50) ⟨ah.2.2.1,ah.2.2.2⟩ ⟨by omega,a1.2⟩;have ab:=ah.1;have ae:=ah.2.1;unfold qZ;omega
theorem LX {n i:Nat} (hi:i<n) (aI:n≤10):-10≤qz n i∧qz n i≤10:=by unfold qz;omega
theorem O7 {n i:Nat} {v B:Int} {q:Prop} [Decidable q] (hi:i<n) (aI:n≤10) (I':0≤B) (h:-B≤v∧v≤B):-(10*B)≤(if q then qz n i*v else 0)∧(if q then qz n i*v else 0)≤10*B:=by
 by_cases ab:q
 ·rw [if_pos ab];exact HZ (LX hi aI) h
 ·rw [if_neg ab];omega
theorem QY {S:List qw} {o:List Int} {a:Nat} {W:List Int} {f:qw→Int} {B:Int} (aq:o.length≤10) (I':0≤B) (h:∀ i,i<o.length → -B≤f (qA S o i)∧f (qA S o i)≤B):-(100*B)≤qB S o a W f∧qB S o a W f≤100*B:=by
 have:=Ny (n:=o.length) (g:=fun i=>if i % 2=a∧(i:Int) ∉ W then qz o.length i*f (qA S o i) else 0) (B:=10*B) fun i hi=>O7 hi aq I' (h i hi);have ae:=Int.mul_le_mul_of_nonneg_right (show (o.length:Int)≤10 by omega) (show 0≤10*B by omega);unfold qB;omega
theorem ac3 {S:List qw} {o:List Int} {a:Nat} {f:qw→Int} {B:Int} (aq:o.length≤10) (I':0≤B) (h:∀ i,i<o.length → -B≤f (qA S o i)∧f (qA S o i)≤B):-(100*B)≤rH S o a f∧rH S o a f≤100*B:=by
 rw [←M8];exact QY aq I' h
theorem XR {n i:Nat} (hi:i<n) (aI:n≤10):MC (i:Int) (n:Int)=some (qz n i):=by
 unfold MC;rw [qS (by decide)];have e:(n:Int).tdiv 2=((n / 2:Nat):Int):=by rw [Int.tdiv_eq_ediv_of_nonneg (by omega)];omega
 rw [e,qO (n:=((n / 2:Nat):Int)) (by omega),qO (by omega)];rfl
theorem NA (i:Nat):(i:Int).tmod 2=((i % 2:Nat):Int):=by rw [Int.tmod_eq_emod_of_nonneg (by omega)];omega
theorem UF {p:(List qw)×(Int×Int)} {o:List Int} {d:Int} {a:Nat} {kl:Int→Option Int} (cp:∀ s∈p.1,qH s) (jJ:JF p.1 o) (aq:o.length≤10) (a1:0≤d∧d≤50) :
  ∀ (m i:Nat),i≤o.length→o.length-i<m→Ku p o d (a:Int) kl m (qP i fun i=>if i % 2=a then qz o.length i*qZ d (qA p.1 o i) else 0) (i:Int)=kl (rH p.1 o a (qZ d))
 | 0,_,_,h=>absurd h (by omega)
 | m+1,i,hi,hm=>by
   rw [Ku];by_cases aR:i<o.length
   ·rw [if_pos (decide_eq_true (by omega)),qS (by decide),NA,Jo i (by omega)];have a8:=UF (kl:=kl) (a:=a) cp jJ aq a1 m (i+1) (by omega) (by omega);by_cases a_:i % 2=a
    ·rw [if_pos (decide_eq_true (by omega)),qS (by omega),qS (jJ i aR),XR aR aq,sa];have al:=IM cp jJ aR;have bm:=HZ (a:=(qA p.1 o i).2) (b:=d) (A:=10) (B:=50) ⟨al.2.2.1,al.2.2.2⟩ ⟨by omega,a1.2⟩;have cw:=LC al a1;have e2:=HZ (LX aR aq) cw;have lQ:=Ny (n:=i) (g:=fun i=>if i % 2=a then qz o.length i*qZ d (qA p.1 o i) else 0) (B:=6000) fun j aw=>O7 (B:=600) (by omega) aq (by omega) (LC (IM cp jJ (by omega)) a1);have e1:ix p.1 (ix o (i:Int))=qA p.1 o i:=rfl;rw [e1,qO (n:=(qA p.1 o i).2*d) (by omega)];rw [show (qA p.1 o i).1+(qA p.1 o i).2*d=qZ d (qA p.1 o i) from rfl,qO (n:=qZ d (qA p.1 o i)) (by omega),qO (n:=qz o.length i*qZ d (qA p.1 o i)) (by omega),qO (by omega)];simp only [qP,if_pos a_] at a8;exact a8
    ·rw [if_neg (by simpa using by omega)];simp only [qP,if_neg a_,uQ] at a8;exact a8
   ·(obtain rfl:i=o.length:=by omega);rw [if_neg (by simp)];rfl
theorem I8 {n:Nat} (h:n≤1000000):n<qn:=by unfold qn;omega
theorem agi {p:(List qw)×(Int×Int)} {o:List Int} {d:Int} {a:Nat} (cp:∀ s∈p.1,qH s) (jJ:JF p.1 o) (aq:o.length≤10) (a1:0≤d∧d≤50):Jr p o d (a:Int)=some (rH p.1 o a (qZ d)):=by
 unfold Jr;exact UF cp jJ aq a1 qn 0 (by omega) (I8 (by omega))
theorem Pr {b:((List (Int×Int))×(Int×Int))×Unit} {n i:Nat} (aI:n≤10) (af:b.1.1.length=n) (hi:i<n):JZ b (i:Int)=some (qz n i):=by
 have:=XR hi aI;unfold MC at this;unfold JZ;rw [af];exact this
theorem Uw {W:List Int} (mb:W.length≤1000) {v:Int}:∀ (m i:Nat),i≤W.length→W.length-i<m→(∀ j,j<i→ix W (j:Int)≠v)→∃ r,Kk W v (fun _=>some (-1:Int)) m (i:Int)=some r∧decide (0≤r)=decide (v∈W)
 | 0,_,_,h,_=>absurd h (by omega)
 | m+1,i,hi,hm,ad=>by
   rw [Kk];by_cases aR:i<W.length
   ·rw [if_pos (decide_eq_true (by omega)),qS (by omega)];by_cases he:v=ix W (i:Int)
    ·rw [if_pos (decide_eq_true he)];refine ⟨_,rfl,?_⟩;rw [decide_eq_true (by omega),decide_eq_true (by rw [he];exact J' (by omega))]
    ·rw [if_neg (by simpa using he),Jo i (by omega)];refine Uw mb m (i+1) (by omega) (by omega) fun j aw=>?_;by_cases gi:j=i
     ·subst gi;exact fun e=>he e.symm
     ·exact ad j (by omega)
   ·rw [if_neg (by simpa using by omega)];refine ⟨-1,rfl,?_⟩;rw [decide_eq_false (by omega),decide_eq_false];intro nO;obtain ⟨j,aw,e⟩:=List.getElem_of_mem nO;refine ad j (by omega) ?_;rw [rK aw];exact e
theorem afG (W:List Int) (mb:W.length≤1000) (v:Int):NF W v=some (decide (v∈W)):=by
 unfold NF Pd;obtain ⟨r,ab,ae⟩:=Uw (W:=W) mb (v:=v) qn 0 (by omega) (I8 (by omega)) (fun j aw=>absurd aw (by omega));have iR:Kk W v (fun _=>some (-1:Int)) qn 0=some r:=ab;rw [iR,sa,ae]
theorem UH {b:((List (Int×Int))×(Int×Int))×Unit} {o:List Int} {W:List Int} {a:Nat} {kl:Int→Int→Option (Int×Int)} (cp:∀ s∈b.1.1,qH s) (jJ:JF b.1.1 o) (aq:o.length≤10) (aI:b.1.1.length=o.length) (mb:W.length≤1000) :
  ∀ (m i:Nat),i≤o.length→o.length-i<m →
    J0 b o (a:Int) W kl m (i:Int) (qP i fun i=>if i % 2=a∧(i:Int) ∉ W then qz o.length i*(qA b.1.1 o i).1 else 0) (qP i fun i=>if i % 2=a∧(i:Int) ∉ W then qz o.length i*(qA b.1.1 o i).2 else 0)=kl (qB b.1.1 o a W Prod.fst) (qB b.1.1 o a W Prod.snd)
 | 0,_,_,h=>absurd h (by omega)
 | m+1,i,hi,hm=>by
   rw [J0];by_cases aR:i<o.length
   ·rw [if_pos (decide_eq_true (by omega)),qS (by omega),qS (by decide),NA,Jo i (by omega)];have a8:=UH (kl:=kl) (a:=a) (W:=W) cp jJ aq aI mb m (i+1) (by omega) (by omega);by_cases a_:i % 2=a
    ·rw [if_neg (by simpa using by omega),afG W mb,sa];by_cases hw:(i:Int)∈W
     ·rw [if_pos (decide_eq_true hw)];simp only [qP,hw,not_true_eq_false,and_false,if_false,uQ] at a8;exact a8
     ·rw [if_neg (by simpa using hw),qS (jJ i aR),Pr aq aI aR,sa,sa];have al:=IM cp jJ aR;have e2:=HZ (LX aR aq) (b:=(qA b.1.1 o i).1) (B:=100) ⟨by have:=al.1;omega,al.2.1⟩;have agH:=HZ (LX aR aq) (b:=(qA b.1.1 o i).2) (B:=10) ⟨al.2.2.1,al.2.2.2⟩;have lQ:=Ny (n:=i) (g:=fun i=>if i % 2=a∧(i:Int) ∉ W then qz o.length i*(qA b.1.1 o i).1 else 0) (B:=1000) fun j aw=>O7 (B:=100) (by omega) aq (by omega) (by have:=IM cp jJ (i:=j) (by omega);exact ⟨by have:=this.1;omega,this.2.1⟩);have agI:=Ny (n:=i) (g:=fun i=>if i % 2=a∧(i:Int) ∉ W then qz o.length i*(qA b.1.1 o i).2 else 0) (B:=100) fun j aw=>O7 (B:=10) (by omega) aq (by omega) (by have:=IM cp jJ (i:=j) (by omega);exact ⟨this.2.2.1,this.2.2.2⟩);have e1:ix b.1.1 (ix o (i:Int))=qA b.1.1 o i:=rfl;rw [e1,qO (n:=qz o.length i*(qA b.1.1 o i).1) (by omega),qO (n:=qz o.length i*(qA b.1.1 o i).2) (by omega),qO (by omega),qO (by omega)];simp only [qP,if_pos (show i % 2=a∧(i:Int) ∉ W from ⟨a_,hw⟩)] at a8;exact a8
    ·rw [if_pos (by simpa using by omega)];simp only [qP,a_,false_and,if_false,uQ] at a8;exact a8
   ·(obtain rfl:i=o.length:=by omega);rw [if_neg (by simp)];rfl
theorem Ps {b:((List (Int×Int))×(Int×Int))×Unit} {o:List Int} {W:List Int} {a:Nat} (cp:∀ s∈b.1.1,qH s) (jJ:JF b.1.1 o) (aq:o.length≤10) (aI:b.1.1.length=o.length) (mb:W.length≤1000) :
  Lw b o (a:Int) W=some (qB b.1.1 o a W Prod.fst,qB b.1.1 o a W Prod.snd):=by
 unfold Lw;exact UH cp jJ aq aI mb qn 0 (by omega) (I8 (by omega))
theorem LV (S:List qw) (o:List Int) (a:Nat) (W:List Int) (d:Int):qB S o a W (qZ d)=qB S o a W Prod.fst+qB S o a W Prod.snd*d:=by
 unfold qB;rw [Int.mul_comm _ d,←WV,←ae6];refine Nz fun i _=>?_;by_cases h:i % 2=a∧(i:Int) ∉ W
 ·simp only [if_pos h,qZ];grind
 ·simp only [if_neg h];omega
theorem ac5 (S:List qw) (o:List Int) (a:Nat) (d:Int):rH S o a (qZ d)=rH S o a Prod.fst+rH S o a Prod.snd*d:=by
 simp only [←M8];exact LV S o a [] d
theorem Qi {S:List qw} {o:List Int} {a:Nat} {W:List Int} (cp:∀ s∈S,qH s) (jJ:JF S o) (aq:o.length≤10):-10000≤qB S o a W Prod.fst∧qB S o a W Prod.fst≤10000 :=
 QY (B:=100) aq (by omega) fun i hi=>by have:=IM cp jJ hi;exact ⟨by have:=this.1;omega,this.2.1⟩
theorem RP {S:List qw} {o:List Int} {a:Nat} {W:List Int} (cp:∀ s∈S,qH s) (jJ:JF S o) (aq:o.length≤10):-1000≤qB S o a W Prod.snd∧qB S o a W Prod.snd≤1000 :=
 QY (B:=10) aq (by omega) fun i hi=>by have:=IM cp jJ hi;exact ⟨this.2.2.1,this.2.2.2⟩
theorem R8 {b:((List (Int×Int))×(Int×Int))×Unit} {o:List Int} {d:Int} (cp:∀ s∈b.1.1,qH s) (jJ:JF b.1.1 o) (aq:o.length≤10) (aI:b.1.1.length=o.length) (a1:0≤d∧d≤50) :
  Ls b o d=some (rH b.1.1 o 0 (qZ d),rH b.1.1 o 1 (qZ d)):=by
 unfold Ls;have aQ:=Ps (W:=[]) (a:=0) cp jJ aq aI (by simp);have ab:=Ps (W:=[]) (a:=1) cp jJ aq aI (by simp);rw [show ((0:Nat):Int)=0 from rfl] at aQ;rw [show ((1:Nat):Int)=1 from rfl] at ab;rw [aQ,ab,sa,sa];have one:∀ a,w (qB b.1.1 o a [] Prod.fst+w (qB b.1.1 o a [] Prod.snd*d))=rH b.1.1 o a (qZ d):=fun a=>by
  have a7:=Qi (a:=a) (W:=[]) cp jJ aq;have a9:=RP (a:=a) (W:=[]) cp jJ aq;have bt:=HZ (b:=d) (B:=50) a9 ⟨by omega,a1.2⟩;rw [qO (n:=qB b.1.1 o a [] Prod.snd*d) (by omega),qO (by omega),←LV,M8]
 simp only [one]
end Go.Proofs.Ytkoioidpbbbaiaa.Ab


namespace Go.Proofs.Ytkoioidpbbbaiaa.Ab
def qV:Nat→List Int→List (List Int)
 | 0,_=>[[]]
 | n+1,left=>left.flatMap fun x=>(qV n (left.erase x)).map (x::·)
theorem Qe {left:List Int} {x:Int} {n:Nat} (ao:left.length=n+1) (aj:x∈left):(left.erase x).length=n:=by
 rw [List.length_erase_of_mem aj,ao];rfl
theorem aeC {left:List Int} (h:left.Pairwise (·<·)):left.Nodup:=h.imp fun h e=>by omega
theorem UQ:∀ (n:Nat) (left:List Int),left.length=n→qV n left≠[]
 | 0,_,_=>by simp [qV]
 | n+1,[],h=>by simp at h
 | n+1,x::s,h=>by
   have:=UQ n ((x::s).erase x) (Qe h (by simp));simp only [qV,ux];intro e;exact this (by simpa using (List.append_eq_nil_iff.1 e).1)
theorem UN:∀ (n:Nat) (left:List Int),left.length=n→(qV n left)[0]?=some left
 | 0,left,h=>by rw [sO.1 h];rfl
 | n+1,[],h=>by simp at h
 | n+1,x::s,h=>by
   (have e:(x::s).erase x=s:=by simp);have a8:=UN n s (by simpa using h);simp only [qV,ux,e];have Uj:0<((qV n s).map (x::·)).length:=by
    rw [sW];exact List.length_pos_iff.2 (UQ n s (by simpa using h))
   rw [sf Uj,sj,a8];rfl
theorem OB:∀ (n:Nat) (left l:List Int),left.length=n→(l∈qV n left↔l.Perm left)
 | 0,left,l,h=>by
   rw [sO.1 h];simp [qV]
 | n+1,left,l,h=>by
   simp only [qV,tG,sA];constructor
   ·rintro ⟨x,aj,r,ai,rfl⟩;have:=(OB n (left.erase x) r (Qe h aj)).1 ai;exact (this.cons x).trans (vp aj).symm
   ·intro aB;cases l with
    | nil=>have:=aB.length_eq;simp at this;omega
    | cons x r =>
      have aj:x∈left:=aB.mem_iff.1 (by simp);refine ⟨x,aj,r,(OB n (left.erase x) r (Qe h aj)).2 ?_,rfl⟩;exact (List.perm_cons x).1 (aB.trans (vp aj))
theorem abI {n:Nat} {left l:List Int} (h:left.length=n) (ao:l∈qV n left):l.length=n:=by
 rw [((OB n left l h).1 ao).length_eq,h]
end Go.Proofs.Ytkoioidpbbbaiaa.Ab


namespace Go.Proofs.Ytkoioidpbbbaiaa.Ab
open Go
noncomputable def Wc:gE :=
 p2 [⟨some 6, [.jq 3], none, some 3, .Bq⟩, p0 7 [.cv (.func 74 [] []), .jq 6] (.call 1)] (p2 [⟨some 8, [.jq 3], none, some 3, .other (Oper.mk (some 8) (Op.move (Operand.tmp 3)) 27 "iter.go:69" (Array.mk []) none) 2⟩, p1 2 8] .ret)
noncomputable def Rt:gE :=
 p2 [p0 2 [.cv (.av [] 0 .full)] (.nil 1)] (p2 [p1 4 0,p0 5 [.cv (.func 73 [] []),.nc 4] (.call 0),p1 3 5] Wc)
theorem UU:qj Go.Proofs.Try.prog S7 58=some (Rt,9,[.tmp 2]):=by kernel_rfl
noncomputable def Wl:gE :=
 p2 [p0 2 [.cv (.av [] 0 .full)] (.nil 1)] (p2 [p1 3 0,p0 4 [.cv (.func 88 [] []),.cv (.av [] 0 .full),.nc 3] (.call 0),p1 2 4] .ret)
theorem ab1:qj Go.Proofs.Try.prog Te 73=some (Wl,5,[.tmp 2]):=by kernel_rfl
noncomputable def aet:gE :=
 p2 [p3 11 0,p1 12 4,p0 13 [.jq 11,.jq 12] (.call 1),p0 14 [.Bs 13] (.un .not)] (.cond (.nc 14) .ret .skip)
noncomputable def aeu:gE :=
 .block 1 (p2 [p0 9 [.nc 5,.nc 7] (.kY 1),qf 10 9,p1 4 10] aet)
noncomputable def Wm:gE :=
 p2 [qf 5 1,p0 6 [.nc 5] .zJ,p' 7 0] (.block 0 (.loop (some (p_ false [0,1,4,3,8])) (p2 [p0 8 [.nc 7,.nc 6] (.bin .lss)] (.seq (.cond (.nc 8) .skip (.exit 0)) (.seq aeu (qM [qU 15 7 1,p1 7 15]))))))
theorem ab2:qj Go.Proofs.Try.prog Tg 75=some (Wm,16,[]):=by kernel_rfl
noncomputable def VD:gE :=
 p2 [p0 2 [.jq 0] .box,p0 4 [.cv (.av [] 0 .full)] (.nil 1)] (.seq (p2 [p1 6 1] (.block 0 (.AM (.nc 6) [7] (q6 Go.Proofs.Try.prog 88 0) (q7 Go.Proofs.Try.prog 88 0)))) (p2 [p0 12 [.Bs 2] .take,p1 4 12] .ret))
theorem abK:qj Go.Proofs.Try.prog Jx 88=some (VD,13,[.tmp 4]):=by kernel_rfl
end Go.Proofs.Ytkoioidpbbbaiaa.Ab


namespace Go.Proofs.Ytkoioidpbbbaiaa.Ab
open Go
set_option maxRecDepth 20000
set_option maxHeartbeats 4000000
noncomputable def Wn:gE :=
 .ov false [p0 5 [.jq 7] .mU]
theorem ab3:ey Try.prog Jx (q6 Try.prog 88 0) 0=some Wn:=by kernel_rfl
noncomputable def Wr:gE :=
 .block 1 (.ov false [p0 8 [.nc 2] .take,p0 9 [.jq 5] .mU,p0 10 [.Bs 9] (.yB 1 1 [.int .i64 0] [0]),p0 11 [.jq 8,.jq 10] (.app 1 8),⟨none,[.jq 2,.jq 11],none,none,.Bk⟩])
theorem ab7:ey Try.prog Jx (q7 Try.prog 88 0) 0=some Wr:=by kernel_rfl
def Ji (l:List Int):I:=match l with | []=>.av [] 0 .full | _=>.raw (l.map h0) l.length 1
def Oc (l:List Int):I:=match l with | []=>.av [] 0 .full | _=>.av (l.map h0) l.length (.uniq 1)
theorem Zi {l:List Int} {e:Int} {yh fA Gi Gj rI IU HI u8 HJ HF HG HH:I} (ao:l.length≤1000) (Y:List ar) :
  ∃ qy,Sem Try.prog (.yield [ar.cells [Ji l]].length) [h0 e] (([ar.cells [Ji l]]++[ar.loop .ready none 88 [yh,fA,.ptr 0 0,Gi,Gj,rI,IU,HI,u8,HJ,HF,HG,HH] [7] (q6 Try.prog 88 0) (q7 Try.prog 88 0) Jx])++Y) 0 (.bool true) (([ar.cells [Ji (l++[e])]]++[ar.loop .ready none 88 [yh,fA,.ptr 0 0,Gi,Gj,rI,IU,HI,u8,HJ,HF,HG,HH] [7] (q6 Try.prog 88 0) (q7 Try.prog 88 0) Jx])++qy):=by
 refine ⟨Y,O2 eG ab3 ab7 (It _ _ _) rfl (Iw (by simp)) ?_⟩;unfold Wn;conv=>whnf
 refine ⟨rfl,It _ _ _,?_⟩;rw [Jl];unfold Wr;cases l with
 | nil =>
   (conv=>whnf);refine ⟨rfl,by omega,?_⟩;(conv=>whnf);refine ⟨by decide,by decide,rfl,?_⟩;(conv=>whnf);refine ⟨rfl,by decide,Gn (by decide) ?_⟩;(conv=>whnf);show _∧(([ar.cells [Ji ([]++[e])]]++[ar.loop .busy none 88 [yh,fA,.ptr 0 0,Gi,Gj,rI,IU,HI,u8,HJ,HF,HG,HH] [7] (q6 Try.prog 88 0) (q7 Try.prog 88 0) Jx])++Y)[[ar.cells [Ji ([]++[e])]].length]?=_∧lI ((([ar.cells [Ji ([]++[e])]]++[ar.loop .busy none 88 [yh,fA,.ptr 0 0,Gi,Gj,rI,IU,HI,u8,HJ,HF,HG,HH] [7] (q6 Try.prog 88 0) (q7 Try.prog 88 0) Jx])++Y).set [ar.cells [Ji ([]++[e])]].length _) _;exact ⟨rfl,It _ _ _,by rw [Jl];exact lI.refl _⟩
 | cons a l =>
   (conv=>whnf);refine ⟨rfl,by omega,?_⟩;(conv=>whnf);refine ⟨rfl,by simp only [sJ] at ao ⊢;omega,?_⟩;(conv=>whnf);refine ⟨?_,Nat.succ_ne_zero _,Gn (by simp) ?_⟩
   ·show ((a::l).map h0++[h0 e]).all g1=true;rw [←List.map_singleton (f:=h0),←sT];exact sk.2 fun x aj=>by obtain ⟨y,_,rfl⟩:=sA.1 aj;rfl
   (conv=>whnf);have e1:I.raw ((a::l).map h0++[h0 e]) ((a::l).length+1) 1=Ji ((a::l)++[e]):=by
    show _=I.raw (((a::l)++[e]).map h0) ((a::l)++[e]).length 1;rw [sT,sB];rfl
   show _∧(([ar.cells [I.raw ((a::l).map h0++[h0 e]) ((a::l).length+1) 1]]++[ar.loop .busy none 88 [yh,fA,.ptr 0 0,Gi,Gj,rI,IU,HI,u8,HJ,HF,HG,HH] [7] (q6 Try.prog 88 0) (q7 Try.prog 88 0) Jx])++Y)[[ar.cells [I.raw ((a::l).map h0++[h0 e]) ((a::l).length+1) 1]].length]?=_∧lI ((([ar.cells [I.raw ((a::l).map h0++[h0 e]) ((a::l).length+1) 1]]++[ar.loop .busy none 88 [yh,fA,.ptr 0 0,Gi,Gj,rI,IU,HI,u8,HJ,HF,HG,HH] [7] (q6 Try.prog 88 0) (q7 Try.prog 88 0) Jx])++Y).set [ar.cells [I.raw ((a::l).map h0++[h0 e]) ((a::l).length+1) 1]].length _) _;rw [e1];exact ⟨rfl,It _ _ _,by rw [Jl];exact lI.refl _⟩
theorem LK (l:List Int):cr 8 (Oc l)=true:=by
 cases l with
 | nil=>rfl
 | cons a l=>exact rE (fun _=>rfl) _ _ _
theorem ZY {k:FuncId} {cap:List I} {l:List Int} (Ik:Seq Try.prog k cap (l.map h0)) (ao:l.length≤1000):qt 88 [.av [] 0 .full,.func k [] cap] (Oc l):=by
 refine Oi eG abK rfl (LK l) fun Q bp=>?_;unfold VD;obtain ⟨a7,cf⟩:∃ c,gE.AM (.nc 6) [7] (q6 Try.prog 88 0) (q7 Try.prog 88 0)=c:=⟨_,rfl⟩;rw [cf];conv=>whnf
 subst cf;refine aeI (f:=h0) Ik (fun i=>[ar.cells [Ji (l.take i)]]) (by exact rfl) (by exact rfl) (fun _=>rfl) ?_ (rl:=none) (by exact rfl) (Hn:=[ar.cells [Ji l]]) (by show [ar.cells [Ji (l.take l.length)]]=_;rw [List.take_length]) ?_
 ·intro i hi Y;rw [show l.take (i+1)=l.take i++[l[i]] by rw [List.take_add_one,sg hi];rfl];exact Zi (l:=l.take i) (e:=l[i]) (by rw [s9];omega) Y
 ·intro qy;cases l with
  | nil =>
    (conv=>whnf);exact bp _ _ _ (JU (.inr rfl) (LK _) rfl)
  | cons a l =>
    (conv=>whnf);exact bp _ _ _ (JU (.inr rfl) (LK _) rfl)
theorem Ty {k:FuncId} {cap:List I} {l:List Int} (pw:cap.all (cr 7)=true) (Ik:Seq Try.prog k cap (l.map h0)) (ao:l.length≤1000):qt 73 [.func k [] cap] (Oc l):=by
 refine Oi eG ab1 rfl (LK l) fun Q bp=>?_;unfold Wl;conv=>whnf
 refine ⟨_,_,MI (p4 rfl (p4 (IK rfl pw) rfl)) (ZY Ik ao) _ _,?_⟩;cases l with
 | nil =>
   (conv=>whnf);exact bp _ _ _ (JU (.inr rfl) (LK _) rfl)
 | cons a l =>
   (conv=>whnf);exact bp _ _ _ (JU (.inr rfl) (LK _) rfl)
end Go.Proofs.Ytkoioidpbbbaiaa.Ab


namespace Go.Proofs.Ytkoioidpbbbaiaa.Ab
open Go
def P9:hE→hE→Bool
 | .shared,.shared=>true
 | .full,.full=>true
 | .own a,.own b=>Nat.beq a b
 | .uniq a,.uniq b=>Nat.beq a b
 | _,_=>false
theorem ZH:∀ {a b:hE},P9 a b=true→a=b:=by
 intro a b h;cases a <;> cases b <;> simp only [P9,tL] at h <;> first | rfl | (rw [sL h])
def IJ (f:I→I→Bool):List I→List I→Bool
 | [],[]=>true
 | a::l,b::r=>match f a b with
   | true=>IJ f l r
   | false=>false
 | _,_=>false
theorem JP {f:I→I→Bool} (aP:∀ a b,f a b=true→a=b):∀ {a b:List I},IJ f a b=true→a=b
 | [],[],_=>rfl
 | [],_::_,h=>by simp [IJ] at h
 | _::_,[],h=>by simp [IJ] at h
 | a::l,b::r,h=>by
   simp only [IJ] at h;split at h
   ·rename_i jL;rw [aP a b jL,JP aP h]
   ·cases h
def IX:Nat→I→I→Bool
 | 0,_,_=>false
 | d+1,a,b=>match a,b with
   | .bool x,.bool y=>match x,y with | true,true=>true | false,false=>true | _,_=>false
   | .int k x,.int q y=>match decide (k=q),decide (x=y) with | true,true=>true | _,_=>false
   | .eI,.eI=>true
   | .bS x,.bS y=>IJ (IX d) x y
   | .av x n c,.av y m e=>match IJ (IX d) x y,Nat.beq n m,P9 c e with | true,true,true=>true | _,_,_=>false
   | .func f x y,.func g z w=>match Nat.beq f g,IJ (IX d) x z,IJ (IX d) y w with | true,true,true=>true | _,_,_=>false
   | .agg x,.agg y=>IJ (IX d) x y
   | .tuple x,.tuple y=>IJ (IX d) x y
   | _,_=>false
theorem N8:∀ (d:Nat) (a b:I),IX d a b=true→a=b
 | 0,_,_,h=>by simp [IX] at h
 | d+1,a,b,h=>by
   have a8:=N8 d;unfold IX at h;split at h
   ·split at h <;> first | rfl | cases h
   ·rename_i k x q y;split at h
    ·rename_i ab ae;rw [of_decide_eq_true ab,of_decide_eq_true ae]
    ·cases h
   ·rfl
   ·rw [JP a8 h]
   ·split at h
    ·rename_i ab ae aF;rw [JP a8 ab,sL ae,ZH aF]
    ·cases h
   ·split at h
    ·rename_i ab ae aF;rw [sL ab,JP a8 ae,JP a8 aF]
    ·cases h
   ·rw [JP a8 h]
   ·rw [JP a8 h]
   ·cases h
inductive Kx where
 | pure (k:Nat) (args:List I) (v:I)
 | map (k:Nat) (args:List I) (es:List (Nat×I×I)) (clock:Nat)
def Qb (P:Program):Kx→Prop
 | .pure k args v=>nn P k args v
 | .map k args es clock=>∀ H,Sem P (.fn k) args H H.length (.map H.length) (H++[.map es clock])
def look (k:Nat) (args:List I) (H:List ar) (lo:Nat):List Kx→Option (I×List ar)
 | []=>none
 | .pure q bs v::r=>match Nat.beq k q with
   | true=>match IJ (IX 20) args bs with
     | true=>match H with
       | []=>some (v,[])
       | _=>look k args H lo r
     | false=>look k args H lo r
   | false=>look k args H lo r
 | .map q bs es clock::r=>match Nat.beq k q with
   | true=>match IJ (IX 20) args bs with
     | true=>match Nat.beq lo H.length with
       | true=>some (.map H.length,H++[.map es clock])
       | false=>look k args H lo r
     | false=>look k args H lo r
   | false=>look k args H lo r
def O6 (l:List Kx):b8:=fun bY args H lo=>match bY with
 | .fn k=>look k args H lo l
 | _=>none
theorem Sem.aca {P:Program} {bY:fc} {args:List I} {r:I} {H':List ar} (h:Sem P bY args [] 0 r H') (lo:Nat):Sem P bY args [] lo r H' :=
 ⟨⟨h.1.1,fun _ _ h=>by simp at h⟩,h.2⟩
theorem look_ok {P:Program} {k:Nat} {args:List I} {H:List ar} {lo:Nat} {r:I} {H':List ar}:∀ {l:List Kx},(∀ e∈l,Qb P e)→look k args H lo l=some (r,H')→Sem P (.fn k) args H lo r H'
 | [],_,h=>by simp [look] at h
 | .pure q bs v::l,ao,h=>by
   have K1:=look_ok (k:=k) (args:=args) (H:=H) (lo:=lo) (r:=r) (H':=H') fun e he=>ao e (tO _ he);unfold look at h;split at h
   ·rename_i ab;split at h
    ·rename_i ae;split at h
     ·cases h;have:=ao (.pure q bs r) tU;rw [sL ab,JP (N8 20) ae];exact this.1.aca lo
     ·exact K1 h
    ·exact K1 h
   ·exact K1 h
 | .map q bs es clock::l,ao,h=>by
   have K1:=look_ok (k:=k) (args:=args) (H:=H) (lo:=lo) (r:=r) (H':=H') fun e he=>ao e (tO _ he);unfold look at h;split at h
   ·rename_i ab;split at h
    ·rename_i ae;split at h
     ·rename_i aF;cases h;have:=ao (.map q bs es clock) tU;rw [sL ab,JP (N8 20) ae,sL aF];exact this H
     ·exact K1 h
    ·exact K1 h
   ·exact K1 h
theorem W0 {P:Program} {l:List Kx} (ao:∀ e∈l,Qb P e):c6 P (O6 l):=o7 fun bY args H lo r H' h=>by
 cases bY with
 | fn k=>exact look_ok ao h
 | yield i=>simp [O6] at h
def Kc (A:FuncId→dw):Nat→List Func→Bool
 | _,[]=>true
 | k,f::r=>match (A k).bad with
   | true=>Kc A (k+1) r
   | false=>match f.body with
     | some c => match codeOk (A k) c, f.name == "runtime.NumGoroutine" with
       | true,false=>Kc A (k+1) r
       | _,_=>false
     | none=>Kc A (k+1) r
theorem Vg {A : FuncId → dw} : ∀ {l : List Func} {k : Nat}, Kc A k l = true → ∀ (i : Nat) (f : Func) (c : Code), (A (k + i)).bad = false → l[i]? = some f → f.body = some c → codeOk (A (k + i)) c = true ∧ f.name ≠ "runtime.NumGoroutine"
 | [],_,_,i,f,c,_,h,_=>by simp at h
 | g::r,k,h,i,f,c,nG,aP,ak=>by
   unfold Kc at h;cases i with
   | zero =>
     simp at aP;subst aP;rw [Nat.add_zero] at nG;rw [nG,ak] at h;simp only at h;split at h
     ·rename_i ab ae;exact ⟨ab,by simpa using ae⟩
     ·cases h
   | succ i =>
     have ai:Kc A (k+1) r=true:=by
      split at h
      ·exact h
      ·split at h
       ·split at h
        ·exact h
        ·cases h
       ·exact h
     have:=Vg ai i f c (by rw [show k+1+i=k+(i+1) by omega];exact nG) (by simpa using aP) ak;rw [show k+(i+1)=k+1+i by omega];exact this
theorem Vf {P : Program} {A : FuncId → dw} (h : Kc A 0 P.funcs.toList = true) (k : Nat) (f : Func) (c : Code) (af : (A k).bad = false) (aP : P.funcs[k]? = some f) (ak : f.body = some c) : codeOk (A k) c = true ∧ f.name ≠ "runtime.NumGoroutine" := by
 have:=Vg h k f c (by rw [sy];exact af) (by simpa using aP) ak
 rwa [sy] at this
theorem Tm:Kc jD 0 Go.Proofs.Try.prog.funcs.toList=true:=by kernel_rfl
noncomputable def RL (l:List Kx) (k:Nat) (args:List I):Option I:=match ga Go.Proofs.Try.prog jD (O6 l) 300 (.fn k) args [] 0 with
 | some (r,H2)=>match bM H2 0 H2.length 0 8 r with
   | some v=>match cr 8 v.settle with
     | true=>some v.settle
     | false=>none
   | none=>none
 | none=>none
theorem aeL {l:List Kx} (ao:∀ e∈l,Qb Go.Proofs.Try.prog e) {k:Nat} {args:List I} {v:I} (h:RL l k args=some v):nn Go.Proofs.Try.prog k args v:=by
 unfold RL at h;split at h
 ·rename_i r H2 ak;split at h
  ·rename_i u aP;split at h
   ·rename_i aB;cases h;have ah:=(Cb eG jD (W0 ao) (Vf Tm) 300).Ha ak;refine ⟨⟨a'.refl _ _,ah.2.1,fun B aa J S w xs ag aI ad=>CallsIn.mono (ah.2.2 B aa J S w xs ag aI ad) fun e w' he=>?_⟩,aB⟩;cases e with
    | returned x =>
      have kQ:=xG ag (fun id aE=>by simp at aE) aP he;show aZ B aa J S w [] u.settle x w';cases u with
      | av cells len eo =>
        cases eo with
        | uniq z=>exact kQ.settle
        | _=>exact kQ
      | _=>exact kQ
    | panicked c=>exact he.elim
    | outgrown=>exact he.elim
   ·cases h
  ·cases h
 ·cases h
end Go.Proofs.Ytkoioidpbbbaiaa.Ab


namespace Go.Proofs.Ytkoioidpbbbaiaa.Ab
open Go
noncomputable def aes:gE :=
 .ov false [p1 5 0,p3 6 2,p1 7 2,p0 8 [.Bs 7] (.conv .u64),p0 9 [.cv (.func 70 [] []),.nc 8] (.call 3),p0 10 [.cv (.func 89 [] []),.jq 5,.cv (.int .i64 0),.jq 6,.jq 9] (.call 1)]
noncomputable def RH:gE :=
 p2 [p3 3 0,qW 4 3,p1 2 4] aes
theorem UY:qj Go.Proofs.Try.prog Tf 74=some (RH,11,[]):=by kernel_rfl
noncomputable def Nj:gE :=
 p2 [p1 24 0,p1 25 1,p1 26 2,p0 27 [.cv (.func 96 [] []),.jq 24,.jq 25,.jq 26] (.call 1)] .ret
noncomputable def adF:gE :=
 p2 [p1 30 0,p1 31 1,p1 32 2,p0 33 [.cv (.func 97 [] []),.jq 30,.jq 31,.jq 32] (.call 1)] .ret
noncomputable def adG:gE :=
 p2 [p3 36 0,p3 37 1,p3 38 2,p0 39 [.cv (.func 98 [] []),.jq 36,.jq 37,.jq 38] (.call 1)] (qM [p1 40 3,qu 41 40 1 .sub,p1 3 41])
noncomputable def adH:gE :=
 p2 [p3 55 2,qu 56 55 1 .sub,p1 57 11,p3 58 1,qs 59 57 58 .sub,qs 60 56 59 .sub,p1 11 60] (qM [p' 12 1])
noncomputable def adI:gE :=
 p2 [p3 51 0,p3 52 1,p3 53 2,p0 54 [.cv (.func 100 [] []),.jq 51,.jq 52,.jq 53] (.call 1)] adH
noncomputable def adJ:gE :=
 p2 [p3 69 0,p3 70 1,p3 71 2,p0 72 [.cv (.func 101 [] []),.jq 69,.jq 70,.jq 71] (.call 1)] (.cond (.nc 72) .ret .skip)
noncomputable def adK:gE :=
 p2 [p3 88 0,p1 89 1,p3 90 2,p1 91 11,p0 92 [.cv (.func 103 [] []),.jq 88,.jq 89,.jq 90,.jq 91] (.call 1),p1 13 92] (p2 [p1 93 13,p1 1 93] (.exit 1))
noncomputable def adL:gE :=
 p2 [p3 117 0,p1 118 1,p3 119 14,p3 120 3,p0 121 [.cv (.func 89 [] []),.jq 117,.jq 118,.jq 119,.jq 120] (.call 1)] (qM [p1 122 14,qU 123 122 1,p1 1 123])
noncomputable def adM:gE :=
 p2 [p1 114 16,p1 115 18,qs 116 114 115 .geq,p1 8 116] adL
noncomputable def adx:gE :=
 p2 [p3 127 0,p3 128 14,qU 129 128 1,p1 130 2,p3 131 3,p0 132 [.cv (.func 89 [] []),.jq 127,.jq 129,.jq 130,.jq 131] (.call 1)] (qM [p1 133 14,p1 2 133])
noncomputable def ady:gE :=
 p2 [p1 124 17,p1 125 18,qs 126 124 125 .geq,p1 8 126] adx
noncomputable def adz:gE :=
 p2 [p1 109 10,qu 110 109 8 .quo,p1 18 110] (p2 [p3 111 16,p3 112 17,qs 113 111 112 .lss] (.cond (.nc 113) adM ady))
noncomputable def adA:gE :=
 p2 [p3 103 14,p3 104 1,qs 105 103 104 .sub,p3 106 2,p3 107 14,qs 108 106 107 .sub,p1 16 105,p1 17 108] adz
noncomputable def adB:gE :=
 p2 [p3 95 0,p3 96 1,p3 97 2,p1 98 11,p0 99 [.cv (.func 104 [] []),.jq 95,.jq 96,.jq 97,.jq 98] (.call 1),p1 94 99,qo 100 94 0,p0 101 [.Bs 94] (.ext 1),p1 14 100,p1 15 101] (p2 [p1 102 15,p1 9 102] adA)
noncomputable def adC:gE :=
 .seq (.seq (qT [p3 73 1,qu 74 73 0 .gtr,p1 75 74,cl 76 [.nc 0] 75 true .mU,cl 77 [.nc 1] 75 true .mU,cl 78 [.Bs 77,.cv (.int .i64 1)] 75 true (.bin .sub),cl 79 [.Bs 76,.Bs 78] 75 true (.kY 1),cl 80 [.Bs 79] 75 true (.zE .one),cl 81 [.nc 0] 75 true .mU,cl 82 [.nc 11] 75 true .mU,cl 83 [.Bs 81,.Bs 82] 75 true (.kY 1),cl 84 [.Bs 83] 75 true (.zE .one),⟨some 85,[.cv (.func 102 [] []),.nc 80,.nc 84],some (75,true),none,.call 3⟩,cl 86 [.Bs 85] 75 true (.un .not),p0 87 [.nc 75,.Bs 86,.cv (.bool false)] .pick]) (.cond (.nc 87) adK .skip)) adB
noncomputable def adD:gE :=
 .seq (p2 [p3 61 8,p1 62 61,cl 63 [.nc 9] 62 true .mU,p0 64 [.Bs 62,.Bs 63,.cv (.bool false)] .pick,p1 65 64,cl 66 [.jq 12] 65 true .mU,cl 67 [.Bs 66,.cv (.int .i64 1)] 65 true (.bin .eql),p0 68 [.Bs 65,.Bs 67,.cv (.bool false)] .pick] (.cond (.nc 68) adJ .skip)) adC
noncomputable def adE:gE :=
 p2 [p3 43 0,p3 44 1,p3 45 2,p0 46 [.cv (.func 99 [] []),.jq 43,.jq 44,.jq 45] (.call 1),p1 42 46,qo 47 42 0,p0 48 [.Bs 42] (.ext 1),p1 11 47,p1 12 48] (.seq (p2 [p3 49 12,qu 50 49 2 .eql] (.cond (.nc 50) adI .skip)) adD)
noncomputable def Q8:gE :=
 .seq (p2 [p3 28 3,qu 29 28 0 .eql] (.cond (.nc 29) adF .skip)) (.seq (p2 [p3 34 8,p0 35 [.Bs 34] (.un .not)] (.cond (.nc 35) adG .skip)) adE)
noncomputable def Nk:gE :=
 .block 1 (p2 [p3 19 2,p3 20 1,qs 21 19 20 .sub,p1 10 21] (.seq (p2 [p3 22 10,qu 23 22 12 .leq] (.cond (.nc 23) Nj .skip)) Q8))
noncomputable def Q7:gE :=
 p2 [p0 8 [.cv (.bool true)] .mU] (p2 [p0 9 [.cv (.bool true)] .mU] (.block 0 (.loop (some (p_ false [0,4,4,2,124])) Nk)))
theorem UR:qj Go.Proofs.Try.prog Tj 89=some (Q7,134,[]):=by kernel_rfl
noncomputable def adN:gE :=
 .block 3 (qT [p3 33 0,p3 34 7,p3 35 0,p3 36 7,qu 37 36 1 .sub,p3 38 0,p3 39 7,qu 40 39 1 .sub,rn 41 38 40 1,qf 42 41,p3 43 0,p3 44 7,rn 45 43 44 1,qf 46 45,rn 47 33 34 1,⟨none,[.jq 47,.jq 42],none,none,.st 1⟩,rn 48 35 37 1,⟨none,[.jq 48,.jq 46],none,none,.st 1⟩])
noncomputable def adO:gE :=
 .seq (.seq (qT [p3 16 7,p3 17 1,qs 18 16 17 .gtr,p1 19 18,cl 20 [.nc 0] 19 true .mU,cl 21 [.nc 7] 19 true .mU,cl 22 [.Bs 20,.Bs 21] 19 true (.kY 1),cl 23 [.Bs 22] 19 true (.zE .one),cl 24 [.nc 0] 19 true .mU,cl 25 [.nc 7] 19 true .mU,cl 26 [.Bs 25,.cv (.int .i64 1)] 19 true (.bin .sub),cl 27 [.Bs 24,.Bs 26] 19 true (.kY 1),cl 28 [.Bs 27] 19 true (.zE .one),⟨some 29,[.cv (.func 102 [] []),.nc 23,.nc 28],some (19,true),none,.call 3⟩,p0 30 [.nc 19,.Bs 29,.cv (.bool false)] .pick]) (.cond (.nc 30) .skip (.exit 2))) (.seq adN (qM [p1 31 7,qu 32 31 1 .sub,p1 7 32]))
noncomputable def adP:gE :=
 .block 1 (p2 [p3 15 6,p1 7 15] (.block 2 (.loop (some (p_ false [0,3,3,2,41])) adO)))
noncomputable def adQ:gE :=
 .seq (p2 [p3 10 6,p3 11 2,qs 12 10 11 .lss] (.cond (.nc 12) .skip (.exit 0))) (.seq adP (qM [p1 13 6,qU 14 13 1,p1 6 14]))
noncomputable def Q9:gE :=
 p2 [p3 8 1,qU 9 8 1,p1 6 9] (.block 0 (.loop (some (p_ false [0,3,3,1,42])) adQ))
theorem US:qj Go.Proofs.Try.prog Tl 96=some (Q9,49,[]):=by kernel_rfl
noncomputable def adR:gE :=
 p2 [p3 5 0,p0 6 [.cv (.func 109 [] []),.nc 5] (.call 3),p1 7 6,cl 8 [.nc 1] 7 true .mU,⟨some 9,[.cv (.func 109 [] []),.nc 8],some (7,true),none,.call 3⟩,cl 10 [.Bs 9] 7 true (.un .not),p0 11 [.Bs 7,.Bs 10,.cv (.bool false)] .pick,p1 12 11,cl 13 [.jq 0] 12 false .mU,cl 14 [.jq 1] 12 false .mU,cl 15 [.Bs 13,.Bs 14] 12 false (.bin .lss),p0 16 [.Bs 12,.cv (.bool true),.Bs 15] .pick,p1 4 16] .ret
noncomputable def VE:gE :=
 p2 [p0 4 [.cv (.bool false)] .mU] adR
theorem abL:qj Go.Proofs.Try.prog Sz 102=some (VE,17,[.tmp 4]):=by kernel_rfl
noncomputable def adS:gE :=
 p2 [p3 3 0,p1 4 0,qs 5 3 4 .neq,p1 2 5] .ret
noncomputable def VF:gE :=
 p2 [p0 2 [.cv (.bool false)] .mU] adS
theorem abM:qj Go.Proofs.Try.prog SA 109=some (VF,6,[.tmp 2]):=by kernel_rfl
end Go.Proofs.Ytkoioidpbbbaiaa.Ab


namespace Go.Proofs.Ytkoioidpbbbaiaa.Ab
open Go
set_option maxRecDepth 20000
set_option maxHeartbeats 4000000
theorem abg (x:Int):qt 109 [h0 x] (B false):=by
 refine Qh eG abM rfl rfl ?_;unfold VF;conv=>whnf
 exact JU (.inr rfl) rfl (by rw [decide_eq_false (show ¬ (x≠x) from fun h=>h rfl)];rfl)
theorem abH (x y:Int):qt 102 [h0 x,h0 y] (B (decide (x<y))):=by
 refine Qh eG abL rfl rfl ?_;unfold VE;conv=>whnf
 refine ⟨by first | rfl | simp only [tt,tV,LZ,L7,L0,L2,L1,L3,L9,L8,JS,L4,L5,L6,tp,tS],_,abg x,?_⟩
 conv=>whnf
 exact JU (.inr rfl) rfl rfl
def Iq (d:Array Int):ar:=.cells (d.toList.map h0)
def J2 (id n:Nat):I:=.ref id 0 n none 1
theorem ZI (d:Array Int) (x:Nat) (h:x<d.size):(d.toList.map h0)[x]?=some (h0 d[x]!):=by
 simp [h]
theorem ZJ (d:Array Int) (x:Nat) (v:Int):(d.toList.map h0).set x (h0 v)=(d.setIfInBounds x v).toList.map h0:=by
 simp [List.map_set]
theorem swp_size (d:Array Int) (i j:Nat):(Sort.swp d i j).size=d.size:=by simp [Sort.swp]
theorem OZ {d:Array Int} {n:Nat} (x:Nat) (e:n=x) (h:x<d.size) {K:I→Prop} (k:K (h0 d[x]!)):eJ (d.toList.map h0) n K:=by
 subst e;exact Ew (ZI d n h) k
theorem Xn {d:Array Int} {n:Nat} {v:Int} (x:Nat) (e:n=x) (h:x<d.size) {K:List I→Prop} (k:K ((d.setIfInBounds x v).toList.map h0)):jt (d.toList.map h0) n (h0 v) K:=by
 subst e;refine Gn (by simpa using h) ?_;rw [ZJ];exact k
section
variable {H:List ar} {id lo:Nat} (bD:lo≤id)
include bD
theorem abf (d:Array Int) (a b:Nat) (a1:d.size≤1000) (cu:a≤b) (af:b≤d.size) (ag:H[id]?=some (Iq d)) :
  Sem Go.Proofs.Try.prog (.fn 96) [J2 id d.size,h0 a,h0 b] H lo (.tuple []) (H.set id (Iq (Sort.insertionSort Sort.ltInt d a b))):=by
 have aE:=(r_.1 ag).1;refine TH eG US rfl ⟨by simp,fun j ab ae=>by rw [sc (by omega)]⟩ ?_;unfold Q9;conv=>whnf
 have CI:Nat.ble lo id=true:=Nat.ble_eq_true_of_le bD;have gs:∀ c:ar,(H.set id c)[id]?=some c:=fun c=>by rw [List.getElem?_set_self aE]
 have JJ:∀ c e:ar,((H.set id c).set id e)[id]?=some e:=fun c e=>by rw [sU,gs]
 rw [Pa a (by omega)];refine .intro (fun m T H'=>∃ i g',a+1≤i∧(i≤b∨i=a+1)∧m=b+1-i∧g'.size=d.size∧Sort.insOuter Sort.ltInt a b i g'=Sort.insertionSort Sort.ltInt d a b∧T=qb 49 [(0,J2 id d.size),(1,h0 a),(2,h0 b),(6,h0 i)]∧H'=H.set id (Iq g')) (b-a) ⟨a+1,d,by omega,.inr rfl,by omega,rfl,rfl,rfl,?_⟩ ?_
 ·obtain ⟨ab,ae⟩:=r_.1 ag;rw [←ae,List.set_getElem_self]
 rintro m T H' ⟨i,g',aaV,aaW,rfl,CT,he,rfl,rfl⟩;conv=>whnf
 refine HB (fun h=>?_) (fun h=>?_)
 ·conv=>whnf
  refine .intro (fun j T H'=>∃ IE:Array Int,j≤i∧IE.size=d.size∧Sort.insInner Sort.ltInt a j IE=Sort.insInner Sort.ltInt a i g'∧T=qb 49 [(0,J2 id d.size),(1,h0 a),(2,h0 b),(6,h0 i),(7,h0 j)]∧H'=H.set id (Iq IE)) i ⟨g',sb _,CT,rfl,rfl,rfl⟩ ?_;rintro j T H' ⟨IE,aw,QH,KZ,rfl,rfl⟩;conv=>whnf
  by_cases aF:(a:Int)<(j:Int)
  ·rw [decide_eq_true aF];obtain ⟨q,rfl⟩:∃ q,j=q+1:=⟨j-1,by omega⟩;(have hw:IntKind.i64.wrap (((q+1:Nat):Int)-1)=(q:Int):=by rw [HK _ (by omega) (by omega)];omega);(conv=>whnf);refine ⟨by omega,?_⟩;(conv=>whnf);refine Ew (by first | exact gs _ | exact JJ _ _ | assumption) ?_
   (conv=>whnf);refine OZ (q+1) (by omega) (by omega) ?_;(conv=>whnf);rw [hw];refine ⟨by omega,?_⟩;(conv=>whnf);refine Ew (by first | exact gs _ | exact JJ _ _ | assumption) ?_
   (conv=>whnf);refine OZ (q) (by omega) (by omega) ?_;(conv=>whnf);refine ⟨by first | rfl | simp only [tt,tV,LZ,L7,L0,L2,L1,L3,L9,L8,JS,L4,L5,L6,tp,tS],_,abH IE[q+1]! IE[q]!,q',?_⟩
   (conv=>whnf);by_cases ba:IE[q+1]!<IE[q]!
   ·rw [decide_eq_true ba];(conv=>whnf);rw [hw];refine ⟨by omega,?_⟩;(conv=>whnf);refine Ew (by first | exact gs _ | exact JJ _ _ | assumption) ?_
    (conv=>whnf);refine OZ (q) (by omega) (by omega) ?_;(conv=>whnf);refine ⟨by omega,?_⟩;(conv=>whnf);refine Ew (by first | exact gs _ | exact JJ _ _ | assumption) ?_
    (conv=>whnf);refine OZ (q+1) (by omega) (by omega) ?_;(conv=>whnf);refine ⟨by omega,?_⟩;(conv=>whnf);rw [CI];(conv=>whnf);refine Ew (by first | exact gs _ | exact JJ _ _ | assumption) ?_
    (conv=>whnf);refine Xn (q+1) (by omega) (by first | omega | (simp only [Array.size_setIfInBounds];omega)) ?_
    (conv=>whnf);refine ⟨by omega,?_⟩;(conv=>whnf);rw [CI];(conv=>whnf);refine Ew (by first | exact gs _ | exact JJ _ _ | assumption) ?_
    (conv=>whnf);refine Xn (q) (by omega) (by first | omega | (simp only [Array.size_setIfInBounds];omega)) ?_
    (conv=>whnf);refine ⟨q,by omega,Sort.swp IE (q+1) q,by omega,by rw [swp_size];exact QH,?_,?_,?_⟩
    ·rw [←KZ,Sort.insInner,if_pos (by simp only [Sort.ltInt,sn,decide_eq_true_eq];exact ⟨by omega,ba⟩)]
    ·rw [hw];rfl
    ·simp only [sU];rfl
   ·rw [decide_eq_false ba];(conv=>whnf);have e:Sort.insInner Sort.ltInt a i g'=IE:=by
     rw [←KZ,Sort.insInner,if_neg (by simp only [Sort.ltInt,sn,decide_eq_true_eq];exact fun bE=>ba bE.2)]
    exact ⟨b+1-(i+1),by omega,i+1,IE,by omega,by omega,rfl,QH,by rw [←he,Sort.insOuter.eq_1 _ a b i,if_pos (by omega),e],by rw [←Pa i (by omega)];rfl,rfl⟩
  ·rw [decide_eq_false aF];(conv=>whnf);have e:Sort.insInner Sort.ltInt a i g'=IE:=by
    rw [←KZ];cases j with
    | zero=>rfl
    | succ q=>rw [Sort.insInner,if_neg (by simp only [sn,decide_eq_true_eq];exact fun bE=>by omega)]
   exact ⟨b+1-(i+1),by omega,i+1,IE,by omega,by omega,rfl,QH,by rw [←he,Sort.insOuter.eq_1 _ a b i,if_pos (by omega),e],by rw [←Pa i (by omega)];rfl,rfl⟩
 ·conv=>whnf
  have e:Sort.insertionSort Sort.ltInt d a b=g':=by
   rw [←he];unfold Sort.insOuter;rw [if_neg (by omega)]
  rw [e];exact ⟨.inl rfl,⟨by simp,fun j o aw=>.inr aw⟩,rfl⟩
theorem adk (d:Array Int) (Jf:Int) (a1:d.size≤12) (ag:H[id]?=some (Iq d)) :
  Sem Go.Proofs.Try.prog (.fn 89) [J2 id d.size,h0 0,h0 d.size,h0 Jf] H lo (.tuple []) (H.set id (Iq (Sort.insertionSort Sort.ltInt d 0 d.size))):=by
 refine re eG UR rfl ⟨by simp,fun j ab ae=>by rw [sc (by omega)]⟩ fun Q bp=>?_;unfold Q7;obtain ⟨P7,I9⟩:∃ c,Nk=c:=⟨_,rfl⟩;rw [I9];conv=>whnf
 refine .intro (fun m T H'=>T=qb 134 [(0,J2 id d.size),(1,h0 0),(2,h0 d.size),(3,h0 Jf),(8,B true),(9,B true)]∧H'=H) 0 ⟨rfl,rfl⟩ ?_;rintro m T H' ⟨rfl,rfl⟩;subst I9;unfold Nk;obtain ⟨a7,cf⟩:∃ c,Nj=c:=⟨_,rfl⟩;obtain ⟨P6,KE⟩:∃ c,Q8=c:=⟨_,rfl⟩;rw [cf,KE];conv=>whnf
 rw [show IntKind.i64.wrap ((d.size:Int)-0)=(d.size:Int) by rw [HK _ (by omega) (by omega)];omega,decide_eq_true (show (d.size:Int)≤12 by omega)];conv=>whnf
 subst cf;unfold Nj;conv=>whnf
 refine ⟨_,_,ra (abf bD d 0 d.size (by omega) (sC _) (sb _) ag),?_⟩;conv=>whnf
 exact bp _ _ _ ⟨.inr rfl,⟨rfl,fun j o aw=>.inr aw⟩,rfl⟩
end
theorem Xo (n:Int):IntKind.u64.wrap n=n % 18446744073709551616:=by simp [IntKind.wrap,IntKind.bits,IntKind.signed]
theorem abG:((List.range 13).all fun n=>match RL [] 70 [.int .u64 (n:Nat)] with | some v=>IX 3 v (h0 (Sort.bitsLen n)) | none=>false)=true:=by kernel_rfl
theorem N9 (n:Nat) (h:n≤12):qt 70 [.int .u64 n] (h0 (Sort.bitsLen n)):=by
 have:=sk.1 abG n (sE.2 (by omega));split at this
 ·rename_i v ad;rw [N8 _ _ _ this] at ad;exact aeL (l:=[]) (by simp) ad
 ·cases this
theorem aeW {H:List ar} {id lo:Nat} (bD:lo≤id) (d:Array Int) (a1:d.size≤12) (ag:H[id]?=some (Iq d)) :
  Sem Go.Proofs.Try.prog (.fn 74) [J2 id d.size] H lo (.tuple []) (H.set id (Iq (Sort.insertionSort Sort.ltInt d 0 d.size))):=by
 refine re eG UY rfl ⟨by simp,fun j ab ae=>by rw [sc (by omega)]⟩ fun Q bp=>?_;unfold RH;conv=>whnf
 rw [show IntKind.u64.wrap (d.size:Int)=(d.size:Int) by rw [Xo];omega];refine ⟨by first | rfl | simp only [tt,tV,LZ,L7,L0,L2,L1,L3,L9,L8,JS,L4,L5,L6,tp,tS],_,N9 d.size a1,?_⟩
 conv=>whnf
 refine ⟨_,_,ra (adk bD d (Sort.bitsLen d.size) a1 ag),?_⟩;conv=>whnf
 exact bp _ _ _ ⟨.inl rfl,⟨rfl,fun j o aw=>.inr aw⟩,rfl⟩
end Go.Proofs.Ytkoioidpbbbaiaa.Ab
