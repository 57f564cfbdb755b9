
import Derived.Test.YtfakoboiahbhaaaGreatJo1
import Derived.Test.YtfakoboiahbhaaaGreatJo3
import Derived.Test.YtfakoboiahbhaaaGreatProg
import Derived.KernelRfl
import Derived.IntWalk
import Derived.ProofKit
import Derived.Deep.Slices
import Derived.ChangeStays
import Derived.Below
import Derived.WalkKit
set_option linter.unusedSimpArgs false
set_option linter.unusedVariables false
set_option linter.unusedSectionVars false

namespace Go.Proofs.YtfakoboiahbhaaaGreat.Ab
open Go
abbrev o_:Bool:=false
abbrev i_:Bool:=true
abbrev t1_:OpAnn:={ takes:=[true] }
abbrev t2_:OpAnn:={ takes:=[true,true] }
def ann2:FAnn:={ ops:=[[{ mode:=3 }]] }
def ann3:FAnn:={ ops:=[[],[],[],[],[],[{},{ mode:=3 },{},{ mode:=3 },t2_,t1_,t1_,t1_,t2_,{ takes:=[false,true] },t1_,t1_,t1_,t2_,{ takes:=[false,true] },t1_,t1_,t1_,t2_,{ takes:=[false,true] },t1_,{},{},{ mode:=3 },{},{},{ mode:=3 },t2_,{ takes:=[false,true] },t1_,{ mode:=3 },{ takes:=[false,true] },t1_]] }
def ann7:FAnn:={ ops:=[[],[],[],[],[],[],[{},{},t1_,{ mode:=3 },{ mode:=3 },t1_,{},{},t1_,t1_],[],[],[],[],[],[],[{},{},{},t2_,t1_,{ mode:=3 },{ mode:=3 },t1_,{},{},t1_,t1_]] }
def ann8:FAnn:={ ops:=[[],[],[],[],[],[],[],[],[],[],[],[],[],[],[],[],[],[],[],[t1_,t1_,t1_,{ mode:=3 },{ mode:=3 },t1_,{},{},t1_,t1_]] }
def ann9:FAnn:={ ops:=[[],[],[],[],[],[],[],[],[],[],[],[{},t1_,{},{},t1_,t2_,t2_,{},{ takes:=[false,true] }],[],[],[],[],[{},{},{},t2_,t1_,{ mode:=3 },t1_,{},{},{},t1_,t1_,t1_],[{},{},{},t1_,{},t1_,t2_,t2_,t1_,{ mode:=3 },t1_,{},{},{},t1_,t1_,t1_],[],[],[t1_,{},{},t2_,t1_,t2_,{},t1_,t1_,t1_,t1_,t2_,t1_]] }
def ann10:FAnn:={ ops:=[[],[],[],[t1_,t1_,{},t1_,t2_,t1_,t1_,{},t1_,t2_,t2_,{},{ takes:=[false,true] }],[{},t1_,{},{},t1_,t2_,{},t1_,t2_,t2_,{},{ takes:=[false,true] }]] }
def ann11:FAnn:={ ops:=[[],[],[],[],[],[],[],[],[],[],[],[],[],[],[],[],[],[],[],[],[],[],[],[],[{},t1_,{ mode:=3 },{ mode:=3 },t1_,{},{},{},t1_,t1_,t1_]] }
def ann12:FAnn:={ bad:=true,ops:=[[{ takes:=[true],mode:=1 }],[{},{ mode:=3 },t1_,t1_,{},t1_,t1_,t1_,{ takes:=[true,false,true] }],[{ mode:=3 },t1_],[{},{ mode:=3 },t1_,{},t1_,t1_,t1_],[{},{ mode:=3 },t1_,{},t1_,t1_,t1_],[t1_,t1_,{},t1_,t1_,t2_,t1_],[],[],[{},{},t1_,t1_,t2_],[t1_,t1_,t1_],[{},{},t2_],[t1_,{},t1_,t2_,t1_],[{},t1_,{ mode:=3 },{},{ takes:=[true],mode:=3 },{},t2_,{ takes:=[true],mode:=3 },{},{},{ takes:=[false,true] },{ takes:=[false,true] }],[{},{},t1_,{},t1_,{ mode:=3 },t1_,{},t1_,t1_,t1_],[t1_,{ mode:=3 },t1_,{},t1_,t1_,t1_],[{},{ mode:=3 },t1_,{},t1_,t1_,t1_],[t1_,t1_,t1_,t1_,t1_,t1_,{},t1_,t1_,t2_,{ takes:=[true,false,true] },t1_,t1_,t1_,{ takes:=[true,false,true] },t1_,t1_,t1_,{ takes:=[true,false,true] }],[],[{},t1_,{},t1_,t2_],[t1_,t1_,t1_,t1_,t1_,{ mode:=3 },t1_,t2_,t1_,{ mode:=3 },t2_,t1_],[t1_,t1_,{ mode:=3 },{},t1_,t2_,t1_,{},t1_,t1_,{},t1_,t2_,{ takes:=[true,false,true] }],[],[t1_,t1_],[t1_,t1_,{ mode:=3 },t1_,{},{},t1_,t1_,t1_,t1_],[t1_,t1_,t1_,t1_,t1_,t1_,t1_,t2_,t2_,t1_,{ mode:=3 },t2_,t1_],[t1_,{ mode:=3 },t1_],[t1_,t1_,t1_,t1_,t2_,t1_,{},{},t1_,t2_,t1_,t1_,{ takes:=[true,false,true] },t1_,t1_,t1_,t1_,t2_,t1_,t1_,{ takes:=[true,false,true] },t1_,{ mode:=3 },t2_,t1_]],keepL:=[(0,[o_,o_,i_,o_,o_,i_,i_,o_,i_,i_,i_,i_,o_,o_,o_,o_,o_,o_,o_,o_,o_,o_,o_,o_,o_,o_,o_,o_,o_,o_,o_,o_,o_,o_,o_,o_,o_,o_,o_,o_,o_,o_,o_,o_,o_,o_,o_,o_,o_,o_,o_,o_,o_,o_,o_,o_,o_,o_,o_,o_,o_,o_,o_,o_,o_,o_,o_,o_,o_,o_,o_,o_,o_,o_,o_,o_,o_,o_,o_,o_,o_,o_,o_,o_,o_,o_,o_,o_,o_,o_,o_,o_,o_,o_,o_,o_,o_,o_,o_,o_,o_,o_,o_,o_,o_,o_,o_,o_,o_,o_,o_,o_,o_,o_,o_,o_,o_,o_,o_,o_,o_,o_,o_,o_,o_,o_,o_,o_,o_,o_,o_,o_,o_,o_,o_,o_,o_,o_,o_,o_,o_,o_,o_,o_,o_,o_,o_,o_,o_,o_,o_,o_,o_,o_,o_,o_,o_,o_,o_,o_,o_,o_,o_,o_,o_,o_,o_,o_,o_,o_,o_,o_,o_,o_,o_,o_,o_,o_,o_,o_,o_,o_,o_,o_,o_,o_,o_])] }
def ann13:FAnn:={ ops:=[[t1_],[{},{ mode:=3 },t1_],[{ mode:=3 },t1_],[t1_,t1_,{},t1_,t2_,t1_,t1_,{},t1_,t2_,t1_,t1_],[{},{},{},{ mode:=3 },t1_,{},t1_,t1_,t1_],[{},{},{},{ mode:=3 },t1_,{},t1_,t1_,t1_],[{},{},t2_],[t1_,t1_,t1_,t1_,t1_,t2_,t1_,{ mode:=3 },t2_,t1_],[{},{ mode:=3 },t1_],[{},t1_,t2_,t1_,{},t1_,t1_,t1_,t2_,{ takes:=[false,false,true] },t1_,{},t1_,{},t1_,t2_,{ takes:=[false,false,true] },t1_,{},t1_,{},{},t2_,t1_,{},{},t2_,t1_,t2_,t2_,{ takes:=[false,false,true] }],[],[{},t1_],[t1_,t1_,t1_,t1_,t1_,t1_,t2_,t1_,{ mode:=3 },t2_,t1_],[{},{},{ mode:=3 },t1_,{},{},t1_,t1_,t1_,t1_],[{},{},{ mode:=3 },t1_,{},{},t1_,t1_,t1_,t1_],[t1_,t1_,t1_,t1_,t1_,{ takes:=[true,false,true] },t1_,t1_,t1_,t2_,{ takes:=[true,false,true] },t1_,t1_,{},t2_,{ takes:=[true,false,true] }],[],[],[],[{},{},t1_,t2_],[t1_,t1_,t1_],[{},{},{},t2_,t1_,{ mode:=3 },t1_],[{},{},{ mode:=3 },t1_,{},{},t2_,{ takes:=[true,false,true] }],[],[t1_,t1_,t1_,t2_,t1_],[{ mode:=3 },t1_]],keepL:=[(0,[o_,o_,o_,i_,o_,o_,o_,o_,i_,i_,o_,o_,o_,o_,o_,o_,o_,o_,o_,o_,i_,i_,o_,o_,o_,o_,o_,o_,o_,o_,o_,o_,o_,o_,o_,o_,o_,o_,o_,o_,o_,o_,o_,o_,o_,o_,o_,o_,o_,o_,o_,o_,o_,o_,o_,o_,o_,o_,o_,o_,o_,o_,o_,o_,o_,o_,o_,o_,o_,o_,o_,o_,o_,o_,o_,o_,o_,o_,o_,o_,o_,o_,o_,o_,o_,o_,o_,o_,o_,o_,o_,o_,o_,o_,o_,o_,o_,o_,o_,o_,o_,o_,o_,o_,o_,o_,o_,o_,o_,o_,o_,o_,o_,o_,o_,o_,o_,o_,o_,o_,o_,o_,o_,o_,o_,o_,o_,o_,o_,o_,o_,o_,o_,o_,o_,o_,o_,o_,o_,o_,o_,o_,o_,o_,o_,o_,o_,o_,o_,o_,o_,o_,o_,o_,o_,o_,o_,o_,o_,o_,o_,o_,o_])] }
def ann14:FAnn:={ ops:=[[],[],[],[{},t1_,{},t1_,t2_,{},{},t1_,t2_,t2_,{},{ takes:=[false,true] }],[],[],[],[{},{ takes:=[true],mode:=1 },{},t1_,{},t2_,t1_,t1_,{},t1_,t2_,{},t1_,{},t2_,t1_,t1_,{},t1_,t2_,t2_,t1_,t2_,{},t2_]] }
def ann15:FAnn:={ ops:=[[],[{ mode:=3 },{ mode:=3 },{ mode:=3 },{},{},{},{ takes:=[false,true] },{ takes:=[false,true] },{ takes:=[false,true] }],[{},{},{ mode:=3 },{ mode:=3 },t1_,{},{},{},t1_,t1_,t1_],[{},{},{ mode:=3 },{ mode:=3 },t1_],[{},{ mode:=3 },t1_,{},t1_,t1_,t1_],[{},{ mode:=3 },t1_,{},t1_,t1_,t1_],[{},{ mode:=3 },t1_,{},t1_,t1_,t1_],[{},{ mode:=3 },t1_,{},t1_,t1_,t1_],[{},{ mode:=3 },t1_,{},t1_,t1_,t1_],[{},{ mode:=3 },t1_,{},t1_,t1_,t1_],[{},{ mode:=3 },t1_,{},t1_,t1_,t1_],[{},{ mode:=3 },t1_,{},t1_,t1_,t1_],[t1_,{ mode:=3 },t1_,{},t1_,t1_,t1_],[t1_,{ mode:=3 },t1_,{},t1_,t1_,t1_],[t1_,t1_,t1_,t1_,t1_,t2_,t1_,t1_,t1_,t2_,t1_,t1_,t1_,t2_,t1_,t1_,t1_,t2_,t1_,t1_,{},{ mode:=3 },{ mode:=3 },t2_,t1_,t1_,t1_,t2_,t1_,t1_,{},{ mode:=3 },t1_,{ mode:=3 },{ mode:=3 },t2_,t1_,t1_,t1_,t2_,t1_,t1_,t1_,t2_,t1_,t1_,t1_,t2_,t1_,t1_,t1_,t2_,t1_,t1_,t1_,t2_,t1_,t1_,t1_,t2_,t1_,t1_,t1_,t2_,t1_,t1_,t1_,t2_,t1_,t1_,t1_,t2_,t1_,t1_,{},{ mode:=3 },{ mode:=3 },t2_,t1_,t1_,t1_,t2_,t1_,t1_,{},{ mode:=3 },{ mode:=3 },t2_,t1_,t1_,t1_,t2_,t1_,t1_,t1_,t1_,t2_,t1_,t1_,t1_,t2_,t1_,t1_,{},{ mode:=3 },{ mode:=3 },t2_,t1_,t1_,{ mode:=3 },t1_,t2_,t1_,{ mode:=3 },t2_,t1_]] }
def ann16:FAnn:={ ops:=[[t1_],[t1_,t1_,t1_,t1_,t1_]] }
def ann17:FAnn:={ ops:=[[],[{ mode:=3 },{ mode:=3 },{ mode:=3 },{},{},{},{ takes:=[false,true] },{ takes:=[false,true] },{ takes:=[false,true] }],[{},{},{ mode:=3 },{ mode:=3 },t1_,{},{},{},t1_,t1_,t1_],[{},{},{ mode:=3 },{ mode:=3 },t1_,{},{},{},t1_,t1_,t1_],[{},{},{ mode:=3 },{ mode:=3 },t1_,{},{},{},t1_,t1_,t1_],[{},{},{ mode:=3 },{ mode:=3 },t1_,{},{},{},t1_,t1_,t1_],[{},{ mode:=3 },t1_,{},{},t1_,t1_,t1_,t1_],[{},{},{ mode:=3 },{},{ mode:=3 },t2_,{ mode:=3 },{ mode:=3 },t1_,{},{},t1_,t1_],[{},{},{ mode:=3 },t1_,{ mode:=3 },{ mode:=3 },t1_,{},{},t1_,t1_],[{},{},{ mode:=3 },{},{ mode:=3 },t2_,{ mode:=3 },{ mode:=3 },t1_,{},{},t1_,t1_],[{},{},{ mode:=3 },{ mode:=3 },{},{},{ mode:=3 },{ mode:=3 },t1_,t1_],[{},{ mode:=3 },t1_,{},t1_,t1_,t1_],[{},{ mode:=3 },t1_,{},t1_,t1_,t1_],[{},{ mode:=3 },t1_,{},t1_,t1_,t1_],[{},{ mode:=3 },t1_,{},t1_,t1_,t1_],[{},{ mode:=3 },t1_,{},t1_,t1_,t1_],[{},{ mode:=3 },t1_,{},t1_,t1_,t1_],[{},{ mode:=3 },t1_,{},t1_,t1_,t1_],[{},{ mode:=3 },t1_,{},t1_,t1_,t1_],[{},{ mode:=3 },t1_,{},t1_,t1_,t1_],[{},{ mode:=3 },t1_,{},t1_,t1_,t1_],[{},{ mode:=3 },t1_,{},t1_,t1_,t1_],[t1_,{ mode:=3 },t1_,{},t1_,t1_,t1_],[{},{ mode:=3 },t1_,{},t1_,t1_,t1_],[t1_,t1_,t1_,t1_,t1_,{ takes:=[true,false,true] },t1_,t1_,t1_,{ takes:=[true,false,true] },t1_,t1_,t1_,{ takes:=[true,false,true] },t1_,t1_,t1_,{ takes:=[true,false,true] },t1_,t1_,t1_,{ takes:=[true,false,true] },t1_,t1_,t1_,{ takes:=[true,false,true] },t1_,t1_,t1_,{ takes:=[true,false,true] },t1_,t1_,t1_,{ takes:=[true,false,true] },t1_,t1_,t1_,{ takes:=[true,false,true] },t1_,t1_,t1_,{ takes:=[true,false,true] },t1_,t1_,t1_,{ takes:=[true,false,true] },t1_,t1_,t1_,{ takes:=[true,false,true] },t1_,t1_,t1_,{ takes:=[true,false,true] },t1_,t1_,t1_,{ takes:=[true,false,true] },t1_,t1_,t1_,{ takes:=[true,false,true] },t1_,t1_,t1_,{ takes:=[true,false,true] },t1_,t1_,t1_,{ takes:=[true,false,true] },t1_,t1_,t1_,{ takes:=[true,false,true] },t1_,t1_,t1_,{ takes:=[true,false,true] },t1_,t1_,t1_,{ takes:=[true,false,true] },t1_,t1_,t1_,{ takes:=[true,false,true] },t1_,t1_,t1_,{ takes:=[true,false,true] }],[],[t1_,t1_,t1_,t1_,t1_,{ takes:=[true,false,true] },t1_,t1_,t1_,{ takes:=[true,false,true] },t1_,t1_,{},{ mode:=3 },{ mode:=3 },t1_,{ takes:=[true,false,true] },t1_,t1_,{},{ mode:=3 },{},{ mode:=3 },{},{ mode:=3 },{ takes:=[true,true,true] },{ mode:=3 },{ mode:=3 },t1_,{ takes:=[true,false,true] },t1_,t1_,t1_,{ takes:=[true,false,true] },t1_,t1_,{},{ mode:=3 },{ mode:=3 },t1_,{ takes:=[true,false,true] },t1_,t1_,t1_,{ takes:=[true,false,true] },t1_,t1_,{},{ mode:=3 },{ mode:=3 },t1_,{ takes:=[true,false,true] },t1_,t1_,{},{ mode:=3 },{ mode:=3 },t1_,{ takes:=[true,false,true] }],[],[t1_,t1_,{ mode:=3 },t1_,{},t1_,t1_,t1_],[t1_,t1_,t1_,t1_,t1_,t2_,t1_,t1_,t1_,{ mode:=3 },t1_,t2_,t1_]] }
def ann18:FAnn:={ ops:=[[t1_],[{},{ mode:=3 },t1_,{},t1_,t1_,t1_],[t1_,t1_],[{},t1_,t1_],[t1_,{},{},t1_],[{},t1_,t1_,t1_],[],[{},t1_,{ mode:=6 },t1_],[],[],[{},t1_],[],[],[{},t1_,{},{ takes:=[false,true] }],[{},t1_,{ takes:=[false,true] },t1_,t1_],[],[t1_,t1_,{ takes:=[false,true] },t1_],[t1_,t1_],[{},{},t1_,t1_,{ mode:=3 },t1_,{},t1_,t1_,t1_],[{},t1_],[t1_],[],[{},t1_,{},{ takes:=[false,true] }],[{},t1_,{ mode:=3 },t1_,{},t1_,t1_,t1_],[t1_,t1_,t2_],[],[t1_,t1_],[t1_,t1_],[t1_,t1_,t1_,t1_]],keepL:=[(1,[o_,i_,o_,o_,o_,o_,o_,i_,o_,o_,i_,o_,o_,o_,o_,o_,o_,o_,o_,o_,o_,o_,o_,o_,o_,o_,o_,o_,o_,o_,o_,o_,o_,o_,o_,o_,o_,o_,o_,i_,i_,i_,o_,o_,o_,o_,o_,o_,o_,o_,o_,o_,o_,o_,o_,o_,o_,o_,o_,o_,o_,o_,o_,o_,o_,o_,o_,o_,o_,o_,o_,o_,o_,o_,o_,o_,o_,o_,o_,o_,o_,o_]),(3,[o_,o_,o_,o_,o_,o_,o_,i_,o_,o_,o_,o_,o_,i_,o_,i_,o_,o_,o_,o_,o_,o_,o_,o_,o_,o_,o_,o_,o_,o_,o_,o_,o_,o_,o_,o_,o_,o_,o_,o_,o_,o_,o_,o_,o_,o_,o_,o_,o_,o_,o_,o_,o_,o_,o_,o_,o_,o_,o_,o_,o_,o_,o_,i_,i_,i_,o_,o_,o_,o_,o_,o_,o_,o_,o_,o_,o_,o_,o_,o_,o_,o_])] }
def ann19:FAnn:={ ops:=[[t1_],[{},{ mode:=3 },t1_],[t1_,{ mode:=3 },{},{},t1_],[{},t1_,t1_],[{},t1_],[],[],[{},{},t2_],[t1_,t1_,t1_],[{},{},t2_,t1_,t1_,t1_,t1_,{},{},t2_,t1_,t1_,{},t1_,t1_,t2_,{ takes:=[false,false,true] },t1_,{},{},t2_,t1_,t1_,t1_,{ takes:=[false,false,true] },t1_,{},{},t2_,t1_,t1_,t1_,{ takes:=[false,false,true] }],[],[],[{},{},t2_],[t1_,t1_,t1_],[{},{},t2_,{},{},t2_,t1_,t1_,{ mode:=3 }],[],[],[{},{},t2_],[t1_,t1_,t1_],[{},{},{},t1_,t2_,t1_,{ mode:=3 },{},{},{},t2_,t1_,{ mode:=3 },t2_],[],[{},{},t1_,t1_,{ mode:=3 },{},{},t1_,t1_,t2_,t1_,{ mode:=3 },t1_,t1_]],keepL:=[(0,[o_,i_,i_,o_,o_,o_,o_,i_,i_,o_,o_,o_,o_,o_,o_,o_,o_,o_,o_,o_,o_,o_,o_,o_,o_,o_,o_,o_,o_,o_,o_,o_,o_,o_,o_,o_,o_,o_,o_,o_,o_,o_,o_,o_,o_,o_,o_,o_,o_,o_,o_,o_,o_,o_,o_,o_,o_,o_,o_,o_,o_,o_,o_,o_,o_,o_,o_,o_,o_,o_,o_,o_,o_,o_,o_,o_,o_,o_,o_,o_,o_,o_,o_,o_,o_,o_,o_,o_,o_,o_,o_,o_,o_,o_,o_,o_,o_,o_,o_,o_,o_,o_,o_]),(2,[o_,i_,i_,o_,o_,o_,o_,i_,o_,i_,o_,o_,o_,o_,o_,o_,o_,o_,o_,o_,o_,o_,o_,o_,o_,o_,o_,o_,o_,o_,o_,o_,o_,o_,o_,o_,o_,o_,o_,o_,o_,o_,o_,o_,o_,o_,o_,o_,o_,o_,o_,o_,o_,o_,o_,o_,o_,o_,o_,o_,o_,o_,o_,o_,o_,o_,o_,o_,o_,o_,o_,o_,o_,o_,o_,o_,o_,o_,o_,o_,o_,o_,o_,o_,o_,o_,o_,o_,o_,o_,o_,o_,o_,o_,o_,o_,o_,o_,o_,o_,o_,o_,o_]),(4,[o_,i_,i_,o_,o_,o_,o_,i_,o_,o_,i_,o_,o_,o_,o_,o_,o_,o_,o_,o_,o_,o_,o_,o_,o_,o_,o_,o_,o_,o_,o_,o_,o_,o_,o_,o_,o_,o_,o_,o_,o_,o_,o_,o_,o_,o_,o_,o_,o_,o_,o_,o_,o_,o_,o_,o_,o_,o_,o_,o_,o_,o_,o_,o_,o_,o_,o_,o_,o_,o_,o_,o_,o_,o_,o_,o_,o_,o_,o_,o_,o_,o_,o_,o_,o_,o_,o_,o_,o_,o_,o_,o_,o_,o_,o_,o_,o_,o_,o_,o_,o_,o_,o_])] }
def ann20:FAnn:={ ops:=[[t1_],[{},t1_],[{},t1_,t1_,{ mode:=3 },t1_,t1_,{},t1_,t1_,t1_,{ takes:=[true,false,true] },t1_],[],[t1_,t1_,t1_,{ mode:=6 },t1_],[],[]] }
def ann21:FAnn:={ ops:=[[t1_],[{},t1_,t1_,t1_,{},t1_,t1_,{ takes:=[true,false,true] },t1_,{},t1_,t1_,t1_,{ takes:=[true,false,true] }],[],[],[{},{},t1_,t1_,t2_],[t1_,t1_,t1_],[{},t1_,{},t2_,t1_,{},{ takes:=[false,true] }],[{},t1_,t1_,t1_,{},t1_,{},t1_,t2_,{ takes:=[true,false,true] },t1_,{},t1_,t1_,{ takes:=[true,false,true] },t1_,t1_,t1_,{},t1_,t2_,{ takes:=[true,false,true] }],[],[]],keepL:=[(0,[o_,i_,o_,i_,o_,o_,o_,o_,o_,o_,o_,o_,o_,o_,o_,o_,o_,o_,o_,o_,o_,o_,o_,o_,o_,o_,o_,o_,o_,o_,o_,o_,o_,o_,o_,o_,o_,o_,o_,o_,o_,o_,o_,o_,o_,o_,o_,o_,o_,o_,o_,o_,o_])] }
def ann22:FAnn:={ ops:=[[t1_],[{},{},{ mode:=3 },t1_,{},{},t1_,t1_,t1_,t1_],[{},t1_,t1_],[t1_,t1_],[t1_,t1_,t1_,t1_,t1_,t2_,t1_],[],[t1_,t1_,t2_,t1_],[],[]] }
def ann23:FAnn:={ ops:=[[t1_],[{},{},{ mode:=3 },t1_,{},{},t1_,t1_,t1_,t1_],[{},t1_],[t1_,t1_],[t1_,t1_,t1_,t1_,t1_,t2_],[],[t1_,t1_,t2_],[],[]] }
def ann25:FAnn:={ ops:=[[t1_],[{},{ mode:=3 },t1_],[{},t1_],[t1_,{},t1_],[],[],[],[{},t1_,t1_],[{},{},{ mode:=3 },t1_,{},{},t1_,t1_,t1_,t1_],[{},t1_],[t1_,{},t1_],[t1_],[],[{},t1_,{},{ takes:=[false,true] }],[{},{},t1_,{},t1_,{ takes:=[true,true,true] },t1_,t1_,t1_,t2_,t1_],[t1_,t1_],[t1_,t1_],[{ takes:=[true],mode:=1 },{ takes:=[false,true],mode:=1 }],[{},{},{ takes:=[false,true],mode:=1 },t1_,{},t1_,t2_,t1_],[],[t1_,t1_,t1_,t1_,t1_,t2_,t1_],[],[t1_,t1_,t1_]],keepL:=[(0,[o_,i_,i_,o_,o_,o_,o_,i_,o_,o_,o_,o_,o_,o_,o_,o_,o_,o_,o_,o_,i_,i_,i_,o_,o_,o_,o_,o_,o_,o_,o_,o_,o_,o_,o_,o_,o_,o_,o_,o_,o_,o_,o_,o_,o_,o_,o_,o_,o_,o_,o_,o_,o_,o_,o_,o_,o_,o_,o_,o_,o_,o_,o_,o_,o_,o_,o_,o_,o_,o_,o_,o_,o_]),(2,[o_,i_,i_,o_,o_,o_,o_,i_,o_,o_,o_,o_,o_,o_,o_,o_,o_,o_,o_,o_,i_,i_,i_,o_,o_,o_,o_,o_,o_,o_,o_,o_,o_,o_,o_,o_,i_,i_,i_,o_,o_,o_,o_,o_,o_,o_,o_,o_,o_,o_,o_,o_,o_,o_,o_,o_,o_,o_,o_,o_,o_,o_,o_,o_,o_,o_,o_,o_,o_,o_,o_,o_,o_])] }
def ann26:FAnn:={ ops:=[[t1_],[{},{ mode:=3 },t1_],[t1_,{ mode:=3 },{},t1_],[],[],[{},{},t1_,t2_],[t1_,t1_,t1_],[{},{},{},t2_,t1_,{ mode:=3 },t1_,{},{},{},t1_,t1_,t1_],[{},t1_],[t1_,{},t1_],[t1_,{},{},t2_,t1_,t2_,t1_],[],[{},{},t1_,t2_],[t1_,t1_,t1_],[{},{},t2_,{},{},t2_,t1_,t1_,{ mode:=3 }],[],[t1_,t1_,t1_,t1_,t1_,t2_],[],[t1_,t1_,t1_]],keepL:=[(0,[o_,i_,i_,o_,o_,o_,i_,i_,o_,o_,o_,o_,o_,o_,o_,o_,o_,o_,o_,o_,o_,o_,o_,o_,o_,o_,o_,o_,o_,o_,o_,o_,o_,o_,o_,o_,o_,o_,o_,o_,o_,o_,o_,o_,o_,o_,o_,o_,o_,o_,o_,o_,o_,o_,o_,o_,o_,o_,o_,o_,o_,o_,o_,o_,o_]),(2,[o_,i_,i_,o_,o_,o_,i_,o_,o_,o_,o_,i_,o_,o_,o_,o_,o_,o_,o_,o_,o_,o_,o_,o_,o_,o_,o_,o_,o_,o_,o_,o_,o_,o_,o_,o_,o_,o_,o_,o_,o_,o_,o_,o_,o_,o_,o_,o_,o_,o_,o_,o_,o_,o_,o_,o_,o_,o_,o_,o_,o_,o_,o_,o_,o_])] }
def ann27:FAnn:={ ops:=[[t1_],[t1_,{ mode:=3 },t1_,{},t1_,t1_,t1_],[{},t1_],[t1_,{},t1_],[{},t1_,{ mode:=3 },{ mode:=3 },t1_],[{},t1_,{ takes:=[false,true] },t1_],[{},t1_,t2_],[t1_,t1_]] }
def ann29:FAnn:={ ops:=[[t1_],[t1_,{ mode:=3 },t1_,{},t1_,t1_,t1_],[{},t1_],[t1_,{},t1_],[{},t1_,{ mode:=3 },{ mode:=3 },t1_]] }
def ann31:FAnn:={ ops:=[[t1_],[{},{ mode:=3 },t1_,{},t1_,t1_,t1_],[{},t1_],[t1_,{},t1_],[],[t1_,t1_],[],[{},{},t1_,{},t1_,{ takes:=[false,true] }],[{},{},t1_,{},{ mode:=3 },{},{ takes:=[false,true] }],[t1_,t1_,t2_,t1_,t1_],[t1_,t1_,t1_,t2_,t1_],[t1_,t1_],[t1_,t1_]],keepL:=[(0,[o_,o_,o_,o_,i_,o_,i_,o_,o_,o_,o_,o_,o_,o_,o_,o_,o_,o_,o_,i_,i_,i_,o_,o_,o_,o_,o_,o_,o_,o_,o_,o_,o_,o_,o_,o_,o_,o_,o_,o_,o_,o_])] }
def ann33:FAnn:={ ops:=[[],[{},t1_,{},t1_,t2_],[],[],[{},{},t1_,t2_],[t1_,t1_,t1_],[{},{},t2_,t1_,{},{},t2_,t1_,t2_],[],[]],keepL:=[(0,[i_,i_,o_,o_,o_,i_,o_,o_,o_,o_,o_,o_,o_,o_,o_,o_,o_,o_,o_,o_,o_,o_,o_,o_,o_,o_])] }
def ann34:FAnn:={ ops:=[[],[{},t1_,{},t1_,t2_],[],[],[{},{},t1_,t2_],[t1_,t1_,t1_],[{},{},t2_,t1_,{},{},t2_,t1_,{ mode:=3 },t1_],[],[]],keepL:=[(0,[i_,i_,o_,o_,o_,i_,o_,o_,o_,o_,o_,o_,o_,o_,o_,o_,o_,o_,o_,o_,o_,o_,o_,o_,o_,o_,o_])] }
def ann35:FAnn:={ ops:=[[t1_],[t1_,{ mode:=3 },t1_,{},t1_,t1_,t1_],[{},t1_],[t1_,{},t1_],[t1_,{ mode:=3 },t1_,t1_]] }
def ann37:FAnn:={ ops:=[[t1_],[{},{ mode:=3 },t1_,{},t1_,t1_,t1_],[{},t1_,t1_],[t1_,{},t1_],[t1_,t1_,t1_,t1_,t1_],[],[{},{ mode:=3 },t1_,t1_,t1_],[],[t1_,{ mode:=3 },t1_]] }
def ann38:FAnn:={ ops:=[[],[],[],[],[],[],[],[],[],[],[],[],[],[],[],[],[],[],[],[{},t1_,t1_,t1_,{},t1_,t1_,{},{},{},{ mode:=3 },t2_,{ takes:=[false,false,true] },{ takes:=[false,true] },t1_,{},{},{},t1_,{ mode:=3 },{},{},{ mode:=3 },{ mode:=3 },{ takes:=[false,true] }],[],[],[],[t1_,{},t1_,t1_,t1_,t2_,t1_,{},t1_,t1_,t1_,{ mode:=3 },{},{},t1_,t1_,{ mode:=3 },t1_,t1_,t1_]] }
def ann39:FAnn:={ ops:=[[t1_],[{},{ mode:=3 },t1_,{},t1_,t1_,t1_],[t1_,t1_],[],[t1_,{ mode:=3 },{},t1_,t1_,t1_]] }
def ann41:FAnn:={ ops:=[[t1_],[t1_,{ mode:=3 },t1_,{},t1_,t1_,t1_],[{},t1_],[t1_,{},t1_],[t1_,{ mode:=3 },t1_]] }
def ann42:FAnn:={ ops:=[[t1_],[{},{ mode:=3 },t1_,{},t1_,t1_,t1_],[{},t1_],[t1_,{},t1_],[t1_,{},{ mode:=3 },t1_],[],[t1_,t1_]] }
def ann43:FAnn:={ ops:=[[],[{},t1_,{},t1_,t2_],[],[],[{},{},t1_,t2_],[t1_,t1_,t1_],[{},{},t2_,t1_,{},{},t2_,t1_,t2_],[],[]],keepL:=[(0,[i_,i_,o_,o_,o_,i_,o_,o_,o_,o_,o_,o_,o_,o_,o_,o_,o_,o_,o_,o_,o_,o_,o_,o_,o_,o_])] }
def ann45:FAnn:={ ops:=[[t1_,t1_],[{},{ mode:=3 },t1_,{},t1_,{},{ takes:=[false,true] },t1_],[{},t1_,t1_],[t1_,{},t1_],[t1_,t1_,t1_,{},{},t2_,{ mode:=3 },t1_,t1_,{},{},t2_,{ takes:=[true,false,true] },t1_],[],[{},{},{ mode:=3 },{},{ takes:=[false,true] }],[{},{ takes:=[false,true] },t1_,t1_],[],[{ mode:=1 }],[{},{},t2_],[{},{},{ mode:=3 }],[{},{ takes:=[false,true] }],[t1_,{},{ mode:=3 },t1_,{},t1_,t1_,t1_],[{},{ takes:=[false,true] },t1_,{},{ takes:=[false,true] },t1_,t1_,t2_],[{ mode:=1 },t1_,t1_,t2_,t1_,t2_,t2_],[t1_,t1_]],keepL:=[(1,[o_,o_,i_,o_,i_,o_,o_,o_,i_,o_,i_,i_,o_,o_,o_,o_,o_,o_,o_,o_,o_,o_,o_,o_,o_,o_,o_,o_,o_,o_,o_,o_,o_,o_,o_,o_,o_,o_,o_,o_,o_,o_,o_,o_,o_,o_,o_,o_,o_,o_,o_,o_,o_,o_,o_,o_,o_,o_,o_,o_,o_,o_,o_,o_,o_,o_,o_,o_,o_,o_,o_,o_])] }
def ann47:FAnn:={ ops:=[[t1_],[{},{ mode:=3 },t1_,t1_,t1_,{ mode:=3 },t1_,t2_,t1_]] }
def ann50:FAnn:={ ops:=[[],[],[],[],[],[],[],[],[],[],[],[],[],[],[{},{},{ mode:=3 },t1_,t1_,{},t1_,t1_,t1_,{},{},{},t1_,t1_,t2_,t1_,{ mode:=3 },{},{},{ mode:=3 },t2_,{ takes:=[false,false,true] },{ takes:=[false,true] }],[],[],[],[],[],[],[t1_,{},{},t2_,t1_,t1_,t2_,t1_,{},{},t2_,t1_,t1_,t2_,t1_,t1_]] }
def ann51:FAnn:={ ops:=[[],[],[],[],[],[{},{ takes:=[true],mode:=1 },{},t1_,{},{},t2_,t1_,t2_,t1_,t1_,t2_,{},t2_]] }
def ann52:FAnn:={ ops:=[[],[t1_,t1_]] }
def ann53:FAnn:={ ops:=[[],[],[{},{},t1_,t2_],[t1_,t1_,t1_],[{},{},t2_,t1_,{},t2_],[],[]],keepL:=[(0,[i_,i_,o_,o_,o_,i_,o_,o_,o_,o_,o_,o_,o_,o_,o_,o_,o_,o_])] }
def ann54:FAnn:={ ops:=[[],[],[],[],[],[t1_,{},{},t2_,t1_,t1_,{},{},t2_,t1_,t1_,{ takes:=[false,true] },t2_,t1_,t2_,t1_]] }
def ann56:FAnn:={ ops:=[[],[],[],[],[],[],[],[],[],[],[],[],[{},t1_,{},t2_,t1_,t1_,{},t1_,{},t2_,t1_,t1_,t1_,t1_],[],[{},{},t2_,t1_,{},{},t2_,t1_,t2_,t1_]] }
def ann57:FAnn:={ ops:=[[t1_,t1_],[{},t1_,t1_],[t1_,t1_,t1_,t1_,t2_,t1_,t1_,t1_],[t1_,t1_,t1_,t1_,t2_,t1_,t1_,t1_]] }
def ann58:FAnn:={ ops:=[[],[{},{ mode:=3 },{ takes:=[false,true] }]] }
def ann59:FAnn:={ ops:=[[],[{},{ mode:=3 },{ takes:=[false,true] }]] }
def ann60:FAnn:={ ops:=[[],[{},{ mode:=3 },{ takes:=[false,true] }]] }
def ann61:FAnn:={ ops:=[[],[],[],[{},t1_,{},t1_,t2_],[t1_,t1_,t1_],[t1_,{},{},t2_,t1_,{},{},t1_,t2_,t1_,t2_,t1_,t2_,t1_],[t1_,t1_]],keepL:=[(0,[i_,o_,o_,i_,i_,o_,o_,o_,o_,o_,o_,o_,o_,o_,o_,o_,o_,o_,o_,o_,o_,o_,o_,o_,o_,o_])] }
def ann62:FAnn:={ ops:=[[],[t1_,t1_]] }
def ann63:FAnn:={ ops:=[[],[t1_,t1_]] }
def ann64:FAnn:={ ops:=[[t1_],[{},{ mode:=3 },t1_],[{},t1_],[t1_,{},t1_],[t1_,t1_,{ takes:=[true],mode:=1 },t1_]] }
def ann65:FAnn:={ ops:=[[t1_],[t1_,t1_,t1_,t1_,{},t1_,t1_,{ mode:=3 },t1_,t1_,t1_,t1_,t1_,{ mode:=3 },t1_,{ takes:=[true,false,true] },t1_]] }
def ann66:FAnn:={ ops:=[[t1_,t1_],[t1_,t2_,{ mode:=6 },t1_,t1_]] }
def ann67:FAnn:={ ops:=[[],[t1_,t1_,{ mode:=6 },t1_,t1_]] }
def ann68:FAnn:={ ops:=[[t1_],[t1_,t1_,t1_,t1_,t1_,{},t1_,t2_,t1_,{},{ takes:=[false,true] }],[t1_,t1_,t1_],[{},t1_,{},t1_,t1_,t1_],[{},t1_,{},t1_,t1_,t1_]] }
def ann69:FAnn:={ ops:=[[],[],[{},{},t1_,t2_],[t1_,t1_,t1_],[{},{},t2_,t1_,t1_,{},t2_],[],[]],keepL:=[(0,[i_,i_,o_,o_,o_,i_,o_,o_,o_,o_,o_,o_,o_,o_,o_,o_,o_,o_,o_])] }
def ann70:FAnn:={ ops:=[[t1_,t1_],[{},t1_,t1_],[t1_,t1_,t1_,t1_,t2_,t1_,t1_,t1_],[t1_,t1_,t1_,t1_,t2_,t1_,t1_,t1_]] }
def ann71:FAnn:={ ops:=[[t1_],[t1_,t1_,t1_,{},t1_,t1_,t1_,t2_,{ mode:=3 },t1_,t1_]] }
def ann72:FAnn:={ ops:=[[],[t1_,t1_,{ mode:=6 },t1_,t1_]] }
def ann73:FAnn:={ ops:=[[{},t1_,t1_],[t1_,{},t1_,t1_,{ mode:=3 },{ takes:=[false,true,false,true,true],mode:=1 }]] }
def ann74:FAnn:={ ops:=[[],[{ takes:=[true],mode:=1 },t1_,t1_],[t1_,t1_],[],[{},{},t1_,t2_],[t1_,t1_,t1_],[{},{},t2_,t1_,{},{},t1_,t2_,t1_,t2_],[{},{},t2_,t1_],[],[{},{},t1_,t2_],[t1_,t1_,t1_],[{},{},t2_,t1_,{},{},t1_,t2_,t1_,t2_],[{},{},{},{},t2_,t1_,t2_,t2_],[t1_,t1_,t1_],[{},{},t2_,t1_],[t1_,t1_,t2_,t1_],[t1_,t1_]],keepL:=[(0,[i_,o_,o_,i_,o_,o_,o_,o_,o_,o_,o_,o_,o_,o_,o_,o_,o_,o_,o_,o_,o_,o_,o_,o_,o_,o_,o_,o_,o_,o_,o_,o_,o_,o_,o_,o_,o_,o_,o_,o_,o_,o_,o_,o_,o_,o_,o_,o_,o_,o_,o_,o_,o_,o_,o_,o_,o_,o_,o_,o_,o_]),(2,[i_,o_,o_,i_,i_,i_,o_,o_,o_,o_,o_,o_,o_,o_,o_,o_,o_,o_,o_,o_,o_,o_,o_,o_,o_,o_,o_,o_,o_,o_,o_,o_,o_,o_,o_,o_,o_,o_,o_,o_,o_,o_,o_,o_,o_,o_,o_,o_,o_,o_,o_,o_,o_,o_,o_,o_,o_,o_,o_,o_,o_])] }
def ann75:FAnn:={ ops:=[[],[{},t1_],[],[{},t1_,t2_,t1_]] }
def ann76:FAnn:={ ops:=[[],[],[t1_],[],[{},t1_,t1_],[{},t1_,t1_,t1_,t1_,{},t2_,t1_,t1_,{},t1_,t1_,{ takes:=[false,true] },t2_],[{},t1_,t1_,t1_,t1_,t1_,t2_,t1_,t1_,{},t1_,t1_,{ takes:=[false,true] },t2_],[t1_,t1_],[{},{},t2_],[],[],[t1_],[],[{},{},t1_,t1_],[t1_,t1_,t1_],[{},{},t1_,t1_,t1_,{ takes:=[true,true,true] },t1_,t1_,t2_,t1_],[t1_,t1_],[t1_,t1_]],keepL:=[(0,[i_,o_,o_,o_,o_,i_,o_,o_,o_,o_,o_,i_,i_,i_,o_,o_,o_,o_,o_,o_,o_,o_,o_,o_,o_,o_,o_,o_,o_,o_,o_,o_,o_,o_,o_,o_,o_,o_,o_,o_,o_,o_,o_,o_,o_,o_,o_,o_,o_,o_,o_,o_,o_,o_,o_,o_,o_,o_,o_,o_,o_,o_,o_,o_,o_,o_]),(2,[o_,o_,o_,o_,o_,o_,o_,o_,i_,o_,o_,o_,o_,o_,o_,o_,o_,o_,o_,o_,o_,o_,o_,o_,o_,o_,o_,o_,o_,o_,o_,o_,o_,o_,o_,o_,o_,o_,o_,o_,o_,o_,o_,o_,o_,o_,o_,i_,i_,o_,o_,o_,o_,o_,o_,o_,o_,o_,o_,o_,o_,o_,o_,o_,o_,o_])] }
def ann77:FAnn:={ ops:=[[],[],[t1_,t1_,t1_,t1_,t1_,t1_],[],[{},t1_],[t1_,t1_,t1_,t2_,t1_],[t1_,t1_],[t1_,t1_]],keepL:=[(0,[o_,o_,o_,i_,o_,o_,o_,o_,o_,o_,i_,i_,o_,o_,o_,o_,o_,o_,o_,o_])] }
def ann79:FAnn:={ ops:=[[t1_],[{ takes:=[true],mode:=1 }],[t1_],[],[{},t1_,{},{ takes:=[false,true] }],[{},t1_],[t1_,t1_,t1_],[],[],[{},t1_,t1_],[{},{},{ mode:=6 }],[t1_,t1_,t2_,t1_],[t1_,t1_],[{ takes:=[true],mode:=1 },{ takes:=[false,true],mode:=1 }],[t1_,t1_,{ takes:=[false,true,true],mode:=1 },{ takes:=[true],mode:=2 },t1_,{ takes:=[true,true],mode:=1 },t1_],[t1_,t1_],[{},{ takes:=[false,true],mode:=1 }],[{ takes:=[true],mode:=2 },t1_]],keepL:=[(0,[o_,o_,i_,o_,o_,i_,o_,o_,o_,o_,o_,o_,i_,i_,i_,o_,o_,o_,o_,o_,o_,o_,o_,o_,o_,o_,o_,o_,o_,o_,o_,o_,o_,o_,o_,o_,o_,o_,o_,o_,o_,o_,o_,o_,o_,o_]),(2,[o_,o_,i_,o_,o_,i_,o_,o_,i_,i_,o_,o_,i_,i_,i_,o_,o_,o_,o_,o_,o_,i_,i_,i_,o_,o_,o_,o_,o_,o_,o_,o_,o_,o_,o_,o_,o_,o_,o_,o_,o_,o_,o_,o_,o_,o_])] }
def ann80:FAnn:={ ops:=[[],[],[],[],[],[],[],[],[],[],[],[{},{},t2_,t1_,{},{},t1_,{},t2_,t1_,t1_,t2_,t1_,t2_]] }
def ann81:FAnn:={ ops:=[[t1_,t1_],[],[],[],[{},t1_],[t1_,{ takes:=[false,true] },t1_],[t1_,t1_],[{},{ takes:=[false,true] },t1_],[t1_,t1_,{},{ takes:=[false,true] }],[{},t1_,t1_],[{},t1_,t1_,{},{ takes:=[false,true] }],[{ mode:=1 },t1_,{ takes:=[false,true] }],[{},{},{ mode:=3 }],[{},{ takes:=[false,true] }],[t1_,{},{ mode:=3 },t1_,{},t1_,t1_,t1_],[t1_,t1_,t1_,t2_,t1_,{},{ takes:=[false,true] },t1_,t1_,t2_],[{},t1_,{ takes:=[false,true] },t1_,t1_,t2_,t2_],[{ mode:=1 },t1_,t1_,t2_,t2_],[t1_,{ takes:=[false,true] }]],keepL:=[(0,[o_,i_,o_,i_,o_,i_,i_,i_,o_,o_,o_,o_,o_,o_,i_,o_,o_,o_,o_,o_,o_,o_,o_,o_,o_,o_,o_,o_,o_,o_,o_,o_,o_,o_,o_,o_,o_,o_,o_,o_,o_,o_,o_,o_,o_,o_,o_,o_,o_,o_,o_,o_,o_,o_,o_,o_,o_,o_,o_,o_,o_,o_,o_]),(2,[o_,o_,o_,i_,o_,i_,i_,i_,o_,i_,o_,o_,o_,o_,o_,o_,o_,o_,o_,o_,o_,o_,o_,o_,o_,o_,o_,o_,o_,o_,o_,o_,o_,o_,o_,o_,o_,o_,o_,o_,o_,o_,o_,o_,o_,o_,o_,o_,o_,o_,o_,o_,o_,o_,o_,o_,o_,o_,o_,o_,o_,o_,o_])] }
def ann82:FAnn:={ ops:=[[],[],[{},{},t1_,{},t2_,t1_,t1_,t2_,t1_,{},{},t1_,{},t2_,t1_,t1_,t2_,t1_,t2_,t1_]] }
def ann83:FAnn:={ ops:=[[],[],[{},{},{ mode:=3 },{ mode:=3 }],[],[{},t1_,{},{ takes:=[false,true] }],[{},t1_,t1_,t1_,t1_,t1_,t1_,{},{ takes:=[false,true] }],[],[],[{},t1_,t1_],[{},t1_,{ takes:=[true],mode:=1 },{},t1_,t1_,t1_,t1_,t1_,t2_,t1_,t1_,t2_,{},t1_,t2_],[t1_,t1_],[{},{},{ mode:=3 },t1_],[],[{},t1_,{},t1_,t2_],[t1_,t1_,t1_],[{},t1_,{ takes:=[true],mode:=1 },{},{},t2_,t1_,{},{},t1_,t2_,t1_,t2_,t1_,t2_,{},t1_,t2_],[{ mode:=7 },t1_],[{},{},{ mode:=6 },t1_],[{},t1_],[{},{},t1_,t2_,{},{},t1_,t2_,t2_,{ mode:=3 },t1_],[],[t1_],[],[{},t1_,{},{ takes:=[false,true] }],[{},t1_,{},t1_,t2_],[t1_,{},{},t1_,t2_,t1_,{},t1_,t2_,t1_,t2_,t1_],[t1_,t1_,t1_,t2_,t1_],[t1_,t1_],[{},t1_,t1_],[t1_,t1_,t1_,t2_,t1_],[t1_,t1_],[t1_,t1_]],keepL:=[(0,[i_,o_,o_,i_,o_,o_,o_,o_,o_,o_,o_,o_,o_,o_,o_,o_,o_,o_,o_,i_,i_,i_,o_,o_,o_,o_,o_,o_,o_,o_,o_,o_,o_,o_,o_,o_,o_,o_,o_,o_,o_,o_,o_,o_,o_,o_,o_,o_,o_,o_,o_,o_,o_,o_,o_,o_,o_,o_,o_,o_,o_,o_,o_,o_,o_,o_,o_,o_,o_,o_,o_,o_,o_,o_,o_,o_,o_,o_,o_,o_,o_,o_,o_,o_,o_,o_,o_,o_,o_,o_,o_,o_,o_,o_,o_,o_,o_,o_,o_,o_,o_,o_,o_,o_,o_,o_,o_,o_,o_,o_,o_,o_,o_,o_,o_,o_,o_,o_,o_,o_,o_,o_,o_,o_,o_,o_,o_,o_,o_,o_,o_,o_,o_]),(2,[i_,o_,o_,i_,o_,i_,i_,o_,o_,o_,o_,o_,o_,o_,o_,o_,o_,o_,o_,i_,i_,i_,o_,o_,o_,o_,o_,o_,o_,o_,o_,o_,i_,i_,i_,o_,o_,o_,o_,o_,o_,o_,o_,o_,o_,o_,o_,o_,o_,o_,o_,o_,o_,o_,o_,o_,o_,o_,o_,o_,o_,o_,o_,o_,o_,o_,o_,o_,o_,o_,o_,o_,o_,o_,o_,o_,o_,o_,o_,o_,o_,o_,o_,o_,o_,o_,o_,o_,o_,o_,o_,o_,o_,o_,o_,o_,o_,o_,o_,o_,o_,o_,o_,o_,o_,o_,o_,o_,o_,o_,o_,o_,o_,o_,o_,o_,o_,o_,o_,o_,o_,o_,o_,o_,o_,o_,o_,o_,o_,o_,o_,o_,o_]),(4,[i_,o_,o_,i_,o_,i_,i_,o_,o_,i_,i_,o_,o_,o_,o_,o_,o_,o_,o_,i_,i_,i_,o_,o_,o_,o_,o_,o_,o_,o_,o_,o_,o_,o_,o_,o_,o_,o_,o_,o_,o_,o_,o_,o_,o_,o_,o_,o_,o_,o_,o_,o_,o_,o_,o_,o_,o_,o_,o_,o_,o_,o_,o_,o_,o_,o_,o_,o_,o_,o_,o_,o_,o_,o_,o_,o_,o_,o_,o_,o_,o_,o_,o_,o_,o_,o_,o_,o_,o_,o_,o_,o_,o_,o_,o_,o_,o_,o_,o_,o_,o_,o_,o_,o_,o_,o_,o_,o_,o_,o_,o_,o_,o_,o_,o_,o_,o_,o_,o_,o_,o_,o_,o_,o_,o_,o_,o_,o_,o_,o_,o_,o_,o_]),(6,[i_,o_,o_,i_,o_,i_,o_,o_,o_,o_,o_,o_,o_,i_,o_,o_,o_,o_,o_,i_,i_,i_,o_,o_,o_,o_,o_,o_,o_,o_,o_,o_,o_,o_,o_,o_,o_,o_,o_,o_,o_,o_,o_,o_,o_,o_,o_,o_,o_,o_,o_,o_,o_,o_,o_,o_,o_,o_,o_,o_,o_,o_,o_,o_,o_,o_,o_,o_,o_,o_,o_,o_,o_,o_,o_,o_,o_,o_,o_,o_,o_,o_,o_,o_,o_,o_,o_,o_,o_,o_,o_,o_,o_,o_,o_,o_,o_,i_,i_,i_,o_,o_,o_,o_,o_,o_,o_,o_,o_,o_,o_,o_,o_,o_,o_,o_,o_,o_,o_,o_,o_,o_,o_,o_,o_,o_,o_,o_,o_,o_,o_,o_,o_])] }
def ann84:FAnn:={ ops:=[[],[],[],[],[],[],[t1_,{},{},{},t2_,t1_,{ mode:=3 },{ mode:=3 },t1_,t1_,{ takes:=[false,true] },t2_,t1_]] }
def ann85:FAnn:={ ops:=[[],[],[{},{ mode:=3 },{ takes:=[true],mode:=1 }],[],[{},t1_,t1_],[],[],[],[{},t1_,{},{ takes:=[false,true] }],[{},{},{},{ takes:=[false,true,true],mode:=1 },{ takes:=[true],mode:=2 }],[],[],[{},t1_],[{},t1_,t2_,{},{ takes:=[false,true] }],[{},{},{ mode:=3 },t1_,{},t1_,t1_,t1_],[{},t1_,t1_,t1_,{},t2_,{ takes:=[true,false,true] },t1_,{},{},t1_,{ mode:=3 },t2_],[t1_,t1_,t1_,t2_,t1_],[t1_,t1_],[t1_,t1_],[{},t1_,t1_],[t1_,t1_],[t1_,{ mode:=3 },{},{ takes:=[false,true] }],[t1_,{},t1_,t2_,t1_],[t1_,{},{ takes:=[false,true,true],mode:=1 },t1_],[{},t1_,{ mode:=3 },t1_,{},t1_,t1_],[t1_,t1_]],keepL:=[(0,[i_,o_,o_,i_,i_,i_,o_,o_,o_,o_,o_,o_,o_,o_,o_,o_,o_,o_,o_,o_,o_,o_,o_,o_,o_,o_,o_,o_,o_,o_,o_,o_,o_,o_,o_,o_,o_,o_,o_,o_,o_,o_,o_,o_,o_,o_,o_,o_,o_,o_,o_,o_,o_,o_,o_,o_,o_,o_,o_,o_,o_,o_,o_,o_,o_,o_,o_,o_,o_,o_,o_,o_,o_,o_,o_,o_,o_,o_,o_,o_,o_]),(2,[i_,o_,o_,i_,i_,i_,i_,o_,o_,o_,o_,o_,o_,o_,o_,o_,o_,o_,o_,o_,i_,i_,i_,o_,o_,o_,o_,o_,o_,o_,o_,o_,o_,o_,o_,o_,o_,o_,o_,o_,o_,o_,o_,o_,o_,o_,o_,o_,o_,o_,o_,o_,o_,o_,o_,o_,o_,o_,o_,o_,o_,o_,o_,o_,o_,o_,o_,o_,o_,o_,o_,o_,o_,o_,o_,o_,o_,o_,o_,o_,o_]),(4,[i_,o_,o_,i_,i_,i_,i_,o_,i_,i_,o_,o_,o_,o_,o_,o_,o_,o_,o_,o_,i_,i_,i_,o_,o_,o_,o_,o_,o_,o_,i_,o_,o_,o_,o_,o_,o_,o_,o_,o_,o_,o_,o_,o_,o_,o_,o_,o_,o_,o_,o_,o_,o_,o_,o_,o_,o_,o_,o_,o_,o_,o_,o_,o_,o_,o_,o_,o_,o_,o_,o_,o_,o_,o_,o_,o_,o_,o_,o_,o_,o_])] }
def ann89:FAnn:={ ops:=[[t1_,t1_],[t2_,t1_]] }
def ann90:FAnn:={ ops:=[[],[],[],[],[],[],[],[],[],[],[],[{},{},{},t2_,{},t1_,t2_,{},{},{ mode:=3 },{},{},t1_,{ mode:=3 },t1_,{},{},t1_,t1_]] }
def ann91:FAnn:={ ops:=[[],[t1_,t1_,{},{ takes:=[false,true] }],[],[{},t1_,{},t1_,t2_],[t1_,t1_,t1_],[{},{ takes:=[true],mode:=1 },{},{},t2_,t1_,{},{},t1_,t2_,t1_,t2_,t1_,t2_,{},t2_],[t1_,{ takes:=[false,true] }]],keepL:=[(0,[o_,i_,o_,o_,i_,i_,i_,o_,o_,o_,o_,o_,o_,o_,o_,o_,o_,o_,o_,o_,o_,o_,o_,o_,o_,o_,o_,o_,o_,o_,o_,o_])] }
def ann92:FAnn:={ ops:=[[],[t1_,t1_,{ mode:=6 },t1_,t1_]] }
def ann93:FAnn:={ ops:=[[],[{},t1_,t2_,t1_,t1_,t1_,t2_,{ takes:=[true,false,true] },t1_]] }
def ann94:FAnn:={ ops:=[[],[{},t1_],[],[{},t1_],[{},{},{},t2_,t1_,{ mode:=6 }],[t1_,t1_],[t1_,t1_],[]],keepL:=[(0,[i_,i_,o_,o_,o_,o_,o_,i_,i_,o_,o_,o_,o_,o_,o_,o_,o_,o_,o_])] }
def ann95:FAnn:={ ops:=[[],[{},t1_],[],[{},t1_],[{},{},{},t2_,t1_,{ mode:=6 }],[t1_,t1_],[t1_,t1_],[]],keepL:=[(0,[i_,i_,o_,o_,o_,o_,o_,i_,i_,o_,o_,o_,o_,o_,o_,o_,o_,o_,o_])] }
def ann96:FAnn:={ ops:=[[],[],[{},{},t2_,t1_],[{},t1_],[t1_,t1_,t1_,{ takes:=[false,true,true,true],mode:=1 }],[{},t1_],[t1_,t1_,t1_,{ takes:=[false,true,true,true],mode:=1 }],[{},t1_],[{},{},{},{ takes:=[false,true,true,true],mode:=1 }],[t1_,t1_,t1_],[{},{},{},{ takes:=[false,true,true,true],mode:=1 },t1_,{},t1_,t1_,t1_],[{},t1_],[{},{},{},{ takes:=[false,true,true,true],mode:=1 }],[{},t1_,t1_,{},t2_,t2_,t1_],[],[{},t1_,{},t2_,t1_,t1_,t1_,t2_],[{},{},{},{ takes:=[false,true,true,true],mode:=1 }],[{},t1_,t1_,{},{},t1_,t2_,t1_,{},{},t2_,t1_,{ mode:=3 },t1_,{ takes:=[false,true] }],[{},t1_,{},t1_,{ takes:=[false,true,true,true,true],mode:=1 },t1_],[t1_,t1_],[{},{},{},t1_,{ takes:=[false,true,true,true,true],mode:=1 },t1_,{},t1_,t1_,t1_],[t1_,t1_],[{},{},t2_,{},{},t2_,t1_,t1_],[t1_,t1_,t1_],[{},{},t2_],[t1_,t1_,t2_,t1_],[{},t1_,{},{},{ takes:=[false,true,true,true,true],mode:=1 }],[t1_,t1_,t1_],[t1_,t1_,t2_,t1_],[{},{},t1_,t1_,{},{ takes:=[false,true,true,true,true],mode:=1 }],[t1_,t1_]],keepL:=[(0,[i_,i_,i_,i_,o_,o_,o_,o_,i_,i_,o_,o_,o_,o_,o_,o_,o_,o_,o_,o_,o_,o_,o_,o_,o_,o_,o_,o_,o_,o_,o_,o_,o_,o_,o_,o_,o_,o_,o_,o_,o_,o_,o_,o_,o_,o_,o_,o_,o_,o_,o_,o_,o_,o_,o_,o_,o_,o_,o_,o_,o_,o_,o_,o_,o_,o_,o_,o_,o_,o_,o_,o_,o_,o_,o_,o_,o_,o_,o_,o_,o_,o_,o_,o_,o_,o_,o_,o_,o_,o_,o_,o_,o_,o_,o_,o_,o_,o_,o_,o_,o_,o_,o_,o_,o_,o_,o_,o_,o_,o_,o_,o_,o_,o_,o_,o_,o_,o_,o_,o_,o_,o_,o_,o_,o_,o_,o_,o_,o_,o_,o_,o_,o_,o_])] }
def ann97:FAnn:={ ops:=[[],[t1_,t1_,{ mode:=3 },t1_],[t1_,{ mode:=3 },t1_]] }
def ann98:FAnn:={ ops:=[[],[t1_,t2_,{ mode:=6 },t1_]] }
def ann99:FAnn:={ ops:=[[],[t1_,t1_,t1_,{ mode:=3 },t1_]] }
def ann100:FAnn:={ bad:=true,ops:=[[],[{},t1_,t1_,t1_,t1_,t1_,t2_,t1_,{},t1_,t1_,t1_,{ takes:=[true],mode:=3 },t1_,t2_,{ takes:=[true],mode:=3 },{},{},{ takes:=[false,true] },{ takes:=[false,true] }],[{},t1_,{},t1_,t2_,t1_,{},t1_,{},t1_,t2_,{ takes:=[true,false,true] },t1_,{},t1_,{},t1_,t2_,{ takes:=[true,false,true] },t1_,t1_,t1_,t1_,t1_,t2_,{ takes:=[true,false,true] },t1_]] }
def ann101:FAnn:={ ops:=[[],[{},{},{},t1_],[{},t1_],[t1_,{ takes:=[true],mode:=4 }],[{},t1_,t1_],[{},{},t1_,t2_],[t1_,t1_,t1_],[{},{},t2_,t1_,t1_],[{},{},{},t1_],[{},{},t1_,t2_,t2_],[t1_,t1_,t1_],[{},{},t2_,t1_],[t1_,t1_,t2_,{ takes:=[true],mode:=4 }]],keepL:=[(0,[i_,i_,o_,o_,o_,i_,i_,o_,o_,o_,o_,o_,o_,o_,o_,o_,o_,o_,o_,o_,o_,o_,o_,o_,o_,o_,o_,o_,o_,o_,o_,o_,o_,o_,o_,o_,o_,o_,o_,o_,o_,o_])] }
def ann102:FAnn:={ ops:=[[{},t1_,t1_],[t1_,{},t1_,t1_,{ mode:=3 },t1_,{ takes:=[false,true,false,true,true,true],mode:=1 }]] }
def ann103:FAnn:={ ops:=[[],[t1_,t1_,t1_,t1_,t1_,t1_,t2_,t1_]] }
def ann104:FAnn:={ ops:=[[t1_],[{},{},{ takes:=[false,true] }],[{},t1_,t1_,t1_,t1_,t1_],[],[{},t1_],[{},{},t1_,{},{},t1_,t2_,t2_],[t1_,t1_],[{ takes:=[true],mode:=1 }],[{},t1_,t1_,t1_,t1_,t1_,t1_,t1_,{},{ takes:=[false,true] }],[{},t1_,t1_],[{},{},{ mode:=3 }],[{},{ takes:=[false,true] }],[{},{},t2_,t1_],[{},{},t2_],[t1_,{},t1_,{},t1_,{ takes:=[false,true] },t2_,t2_],[{ mode:=5 },{},t1_,{ takes:=[true,true],mode:=1 },t2_],[t1_,t1_,{ mode:=3 },t1_,{},t1_,t2_],[{},t1_,t1_],[{},{},t1_,t1_,t2_,t1_,{},{ takes:=[false,true] }],[{ mode:=5 },{},t1_,t1_,t2_,{ takes:=[false,true] }],[t1_,{},t1_,{ takes:=[true,true],mode:=1 },t1_],[{},t1_,{ mode:=3 },t1_,{},t1_,{ takes:=[false,true] }],[{},{ takes:=[false,true],mode:=1 }],[{ takes:=[true],mode:=2 },t1_]],keepL:=[(0,[o_,i_,o_,i_,o_,o_,o_,o_,o_,o_,o_,o_,o_,o_,o_,o_,o_,i_,i_,o_,o_,o_,o_,o_,o_,o_,o_,o_,o_,o_,o_,o_,o_,o_,o_,o_,o_,o_,o_,o_,o_,o_,o_,o_,o_,o_,o_,o_,o_,o_,o_,o_,o_,o_,o_,o_,o_,o_,o_,o_,o_,o_,o_,o_,o_,o_,o_,o_,o_,o_,o_,o_,o_,o_,o_,o_,o_,o_,o_,o_,o_,o_,o_,o_,o_,o_,o_,o_,o_,o_,o_,o_]),(2,[o_,i_,o_,i_,o_,i_,i_,i_,i_,o_,o_,o_,o_,o_,o_,o_,o_,o_,o_,o_,o_,o_,o_,o_,o_,o_,o_,o_,o_,o_,o_,o_,o_,o_,o_,o_,o_,o_,o_,o_,o_,o_,o_,o_,o_,o_,o_,o_,o_,o_,o_,o_,o_,o_,o_,o_,o_,o_,o_,o_,o_,o_,o_,o_,o_,o_,o_,o_,o_,o_,o_,o_,o_,o_,o_,o_,o_,o_,o_,o_,o_,o_,o_,o_,o_,o_,o_,o_,o_,o_,o_,o_])] }
def ann105:FAnn:={ ops:=[[t1_],[t1_,t1_,t1_,t1_,t2_,t1_]] }
def ann106:FAnn:={ ops:=[[],[],[],[],[{},t1_,t1_],[t1_,t1_,t1_,t2_,t1_],[{},t1_],[{},t1_],[t1_,t1_],[t1_,{},t1_],[t1_],[],[{},t1_,t1_],[t1_,t1_,t2_,t1_],[t1_,t1_],[t1_,t1_]],keepL:=[(0,[i_,o_,o_,i_,o_,o_,o_,o_,o_,i_,i_,i_,o_,o_,o_,o_,o_,o_,o_,o_,o_,o_,o_,o_,o_,o_,o_,o_,o_,o_,o_,o_,o_,o_,o_,o_]),(2,[o_,o_,o_,o_,o_,o_,i_,o_,o_,o_,o_,o_,o_,o_,o_,o_,o_,o_,o_,o_,o_,o_,o_,o_,o_,i_,i_,i_,o_,o_,o_,o_,o_,o_,o_,o_])] }
def ann107:FAnn:={ ops:=[[],[{ takes:=[true],mode:=1 },{},{ mode:=6 },t1_],[{},t1_],[t1_,t1_],[{},t1_,t1_],[{},{},t1_,t2_],[t1_,t1_,t1_],[{},{},t2_,t1_,t1_],[{},{},{ mode:=6 },t1_],[{},{},t1_,t2_,t2_],[t1_,t1_,t1_],[{},{},t2_,t1_],[t1_,t1_,t2_,t1_]],keepL:=[(0,[i_,i_,o_,o_,o_,i_,i_,o_,o_,o_,o_,o_,o_,o_,o_,o_,o_,o_,o_,o_,o_,o_,o_,o_,o_,o_,o_,o_,o_,o_,o_,o_,o_,o_,o_,o_,o_,o_,o_,o_,o_,o_])] }
def ann108:FAnn:={ ops:=[[],[t1_,t1_,t2_,t1_]] }
def ann109:FAnn:={ ops:=[[t1_,t1_],[{},t1_],[{},{},{ mode:=3 },t1_],[{},t1_,t1_,t1_],[],[{},t1_,t1_,t1_,{},t1_,t1_,t1_,t1_,t1_,{ mode:=3 },t1_,t2_,{ takes:=[true,false,true] },t1_,{},t1_,{ mode:=6 },t1_,{ takes:=[true,false,true] },t1_],[],[t1_,t1_,{ mode:=3 },t1_,t1_,t1_]] }
def ann110:FAnn:={ ops:=[[],[{},t1_,t1_,{},{ takes:=[false,true] }],[t1_,t1_],[],[{},t1_,{},{ takes:=[false,true] }],[{},{},{},{ mode:=6 }],[t1_,{ takes:=[false,true] }],[t1_,t1_],[t1_,{ takes:=[false,true] }]],keepL:=[(0,[o_,i_,o_,o_,i_,i_,o_,o_,o_,o_,o_,o_,i_,i_,i_,o_,o_,o_,o_,o_,o_,o_,o_,o_,o_])] }
def ann111:FAnn:={ ops:=[[t1_,t1_],[t1_,t1_,t1_,t1_,t2_,t1_]] }
def ann112:FAnn:={ ops:=[[],[t1_,t1_,t1_,t2_,t1_]] }
def ann113:FAnn:={ ops:=[[{},t1_,t1_,t1_,t1_,t1_],[],[{},t1_],[],[],[{},t1_],[{},t1_,t2_,{},{ takes:=[false,true] }],[{},{},{ mode:=3 },t1_,{},t1_,t1_,t1_],[t1_,{},t2_,t1_,{},t1_,{ takes:=[true,true],mode:=1 },t1_,t2_],[t1_,t1_],[t1_,t1_]],keepL:=[(0,[i_,i_,i_,o_,o_,o_,o_,o_,o_,o_,o_,o_,o_,o_,i_,i_,o_,o_,o_,o_,o_,o_,o_,o_,o_,o_,o_,o_,o_,o_,o_,o_,o_,o_,o_,o_,o_,o_,o_,o_,o_]),(2,[i_,i_,i_,o_,i_,o_,o_,o_,o_,o_,o_,o_,o_,o_,i_,i_,o_,o_,i_,o_,o_,o_,o_,o_,o_,o_,o_,o_,o_,o_,o_,o_,o_,o_,o_,o_,o_,o_,o_,o_,o_])] }
def ann114:FAnn:={ ops:=[[],[{},t1_],[],[{},t1_],[{},{},{},t2_,t1_,{ mode:=6 }],[t1_,t1_],[t1_,t1_],[]],keepL:=[(0,[i_,i_,o_,o_,o_,o_,o_,i_,i_,o_,o_,o_,o_,o_,o_,o_,o_,o_,o_])] }
def ann115:FAnn:={ ops:=[[{},t1_,t1_],[{},{},t2_],[t1_,t1_,t1_],[{},t1_],[{},{},t2_,t1_,{},{},t2_,t1_,{},{},t1_,t2_,t1_,{ mode:=3 },{ takes:=[false,true] }],[t1_,t1_,t1_],[{},{},{},{},t1_,{},{},t1_,t2_,t1_,{},{},t2_,t1_,t2_,t2_,t2_,t2_]],keepL:=[(0,[i_,i_,i_,o_,o_,o_,i_,o_,o_,o_,o_,o_,o_,o_,o_,o_,o_,o_,o_,o_,o_,o_,o_,o_,o_,o_,o_,o_,o_,o_,o_,o_,o_,o_,o_,o_,o_,o_,o_,o_,o_,o_,o_,o_,o_,o_,o_,o_,o_]),(2,[i_,i_,i_,o_,o_,o_,i_,i_,o_,o_,o_,o_,o_,o_,o_,o_,o_,o_,o_,o_,o_,o_,o_,o_,o_,o_,o_,o_,o_,o_,o_,o_,o_,o_,o_,o_,o_,o_,o_,o_,o_,o_,o_,o_,o_,o_,o_,o_,o_])] }
def ann116:FAnn:={ ops:=[[],[],[],[],[],[],[],[],[],[],[{},{},{},{},{},t2_,{},{},{},t2_,t2_,t1_,{},{},t2_,t1_,t2_,t2_,t2_,t2_]] }
def ann117:FAnn:={ ops:=[[],[],[],[],[],[],[],[],[],[],[{},{},{},{},{},t2_,{},{},{},t2_,t2_,t1_,{},{},t2_,t1_,t2_,t2_,t2_,t2_]] }
def ann119:FAnn:={ ops:=[[],[],[],[{},{},{},{},{},{},t2_,t1_,{},{},t2_,t1_,t2_,t2_,t2_,t2_]] }
def ann120:FAnn:={ ops:=[[],[],[],[],[],[{},{},t2_,t1_,{},{},t2_,t1_,{},{},t1_,t2_,t1_,{ mode:=3 },t1_,{ takes:=[false,true] }],[],[],[],[],[],[{},{},{},{},t1_,{},{},t1_,t2_,t1_,{},{},t2_,t1_,t2_,t2_,t2_,t2_],[],[],[],[],[{},{},t2_,t1_,{},{},t1_,t2_,t1_,{ mode:=3 },t1_],[{},{},{},{},t1_,{},{},t1_,t2_,t1_,{},{},t2_,t1_,t2_,t2_,t2_,t2_],[],[],[],[],[{},{},t2_,t1_,{},{},t1_,t2_,t1_,{ mode:=3 },t1_],[{},{},{},{},t1_,{},{},t1_,t2_,t1_,{},{},t2_,t1_,t2_,t2_,t2_,t2_]] }
def ann121:FAnn:={ ops:=[[],[{},{ mode:=3 },t1_,{},{ mode:=3 },t1_,t2_,t1_,t1_,t1_,t2_,{ takes:=[true,false,true] },t1_]] }
def ann122:FAnn:={ ops:=[[],[{},{},{},{},{},{},t2_,t1_,{},{},t2_,t1_,t2_,t2_,t2_,t2_],[],[{},{},t2_,t1_,{},{},t2_,t1_,{},{},t2_,t1_,{ mode:=3 },t1_,{ takes:=[false,true] }],[],[{},{},t2_,t1_,{},{},t2_,t1_,{},{},t2_,t1_,{ mode:=3 },{ takes:=[false,true] }],[],[],[{},{},{},{},{},{},t2_,t1_,{},{},t2_,t1_,t2_,t2_,t2_,t2_]] }
def ann123:FAnn:={ ops:=[[],[{},{},{},{},{},{},t2_,t1_,{},{},t2_,t1_,t2_,t2_,t2_,t2_],[],[{},{},t2_,t1_,{},{},t2_,t1_,{},{},t2_,t1_,{ mode:=3 },{ takes:=[false,true] }],[],[{},{},t2_,t1_,{},{},t2_,t1_,{},{},t2_,t1_,{ mode:=3 },t1_,{ takes:=[false,true] }],[],[],[{},{},{},{},{},{},t2_,t1_,{},{},t2_,t1_,t2_,t2_,t2_,t2_],[],[{},{},{},{},{},{},t2_,t1_,{},{},t2_,t1_,t2_,t2_,t2_,t2_],[],[],[{},{},t2_,t1_,{},{},t2_,t1_,{},{},t2_,t1_,{ mode:=3 },{ takes:=[false,true] }],[],[{},{},t2_,t1_,{},{},t2_,t1_,{},{},t2_,t1_,{ mode:=3 },t1_,{ takes:=[false,true] }],[],[],[{},{},{},{},{},{},t2_,t1_,{},{},t2_,t1_,t2_,t2_,t2_,t2_],[],[],[{},{},{},{},{},{},t2_,t1_,{},{},t2_,t1_,t2_,t2_,t2_,t2_]] }
def ann124:FAnn:={ ops:=[[],[{},t1_],[t1_,t1_,t1_],[],[{},t1_],[t1_,t1_,t1_],[t1_,t1_,t1_],[t1_,t1_,t1_,{ takes:=[false,true] },t1_,t2_,t1_]] }
def ann125:FAnn:={ ops:=[[],[{},t1_],[t1_,t1_,t1_],[],[{},t1_],[t1_,t1_,t1_],[t1_,t1_,t1_],[{},t1_],[t1_,t1_,t1_],[t1_,t1_,t1_],[t1_,t1_,t1_,{ takes:=[false,true] },t1_,t2_,t1_]] }
def ann126:FAnn:={ ops:=[[],[{},t1_],[],[{},t1_],[{},{},{},t2_,t1_,{ mode:=6 }],[t1_,t1_],[t1_,t1_],[]],keepL:=[(0,[i_,i_,o_,o_,o_,o_,o_,i_,i_,o_,o_,o_,o_,o_,o_,o_,o_,o_,o_])] }
def ann127:FAnn:={ ops:=[[],[],[{},{},t2_,t1_],[{},t1_],[t1_,t1_,t1_,t1_,{ takes:=[false,true,true,true,true],mode:=1 }],[{},t1_],[t1_,t1_,t1_,t1_,{ takes:=[false,true,true,true,true],mode:=1 }],[{},t1_],[{},{},{},{},{ takes:=[false,true,true,true,true],mode:=1 }],[t1_,t1_,t1_],[{},{},{},{},{ takes:=[false,true,true,true,true],mode:=1 },t1_,{},t1_,t1_,t1_],[{},t1_],[{},{},{},{},{ takes:=[false,true,true,true,true],mode:=1 }],[{},t1_,t1_,{},t2_,t2_,t1_],[],[{},t1_,{},t2_,t1_,t1_,t1_,t2_],[{},{},{},{},{ takes:=[false,true,true,true,true],mode:=1 }],[{},t1_,t1_,{},{},{},t1_,t2_,t1_,{},{},t2_,t1_,{ mode:=6 },t1_,t1_,{ takes:=[false,true] }],[{},t1_,{},t1_,{},{ takes:=[false,true,true,true,true,true],mode:=1 },t1_],[t1_,t1_],[{},{},{},t1_,{},{ takes:=[false,true,true,true,true,true],mode:=1 },t1_,{},t1_,t1_,t1_],[t1_,t1_],[{},{},t2_,{},{},t2_,t1_,t1_],[t1_,t1_,t1_],[{},{},t2_],[t1_,t1_,t2_,t1_],[{},t1_,{},{},{},{ takes:=[false,true,true,true,true,true],mode:=1 }],[t1_,t1_,t1_],[t1_,t1_,t2_,t1_],[{},{},t1_,t1_,{},{},{ takes:=[false,true,true,true,true,true],mode:=1 }],[t1_,t1_]],keepL:=[(0,[i_,i_,i_,i_,i_,o_,o_,o_,o_,o_,i_,i_,o_,o_,o_,o_,o_,o_,o_,o_,o_,o_,o_,o_,o_,o_,o_,o_,o_,o_,o_,o_,o_,o_,o_,o_,o_,o_,o_,o_,o_,o_,o_,o_,o_,o_,o_,o_,o_,o_,o_,o_,o_,o_,o_,o_,o_,o_,o_,o_,o_,o_,o_,o_,o_,o_,o_,o_,o_,o_,o_,o_,o_,o_,o_,o_,o_,o_,o_,o_,o_,o_,o_,o_,o_,o_,o_,o_,o_,o_,o_,o_,o_,o_,o_,o_,o_,o_,o_,o_,o_,o_,o_,o_,o_,o_,o_,o_,o_,o_,o_,o_,o_,o_,o_,o_,o_,o_,o_,o_,o_,o_,o_,o_,o_,o_,o_,o_,o_,o_,o_,o_,o_,o_,o_,o_,o_,o_,o_,o_,o_,o_,o_,o_,o_,o_,o_,o_])] }
def ann128:FAnn:={ ops:=[[{},t1_,t1_,{},t1_],[{},{},t2_],[t1_,t1_,t1_,t1_,t1_,t1_],[{},{},{},{},{},{},t2_,t1_,{},{},t2_,t1_,t2_,t2_,t2_,t2_]],keepL:=[(0,[i_,o_,i_,i_,o_,o_,o_,o_,o_,o_,o_,o_,o_,o_,o_,o_,o_,o_,o_,o_,o_,o_,o_,o_,o_,o_,o_,o_])] }
def ann129:FAnn:={ ops:=[[],[{},t1_],[{},t1_],[t1_,{},t1_,{},t1_,t2_,t2_,t1_],[{},t1_],[{},{},t1_,t2_,t1_,t2_,t1_,t1_,t2_,t1_],[t1_,t1_]] }
def ann130:FAnn:={ ops:=[[],[{},t1_,t1_,t1_,t1_,{},t2_,t1_,t1_,{},t2_,t1_,{},t1_,t1_,t1_,t1_,{},t2_,t1_,t1_,{},t2_,{ takes:=[false,false,true] },t1_]] }
def ann131:FAnn:={ ops:=[[],[t1_,t1_,{ mode:=3 },t1_,t1_]] }
def ann132:FAnn:={ ops:=[[],[],[],[{},t1_,{},t2_,t1_,{},{},{},t2_,t2_,t1_,{},{},{},t2_,t1_,t2_,t1_,{ mode:=3 },{ takes:=[false,true] }],[],[{},{},{},t2_,t2_,t1_,{},{},{},t2_,t2_,t1_,{ mode:=3 },t1_],[{},{},{},t2_,{},{},{},t2_,{},{},{},t2_,t2_,t1_,{},{},{},t2_,t2_,t1_,t2_,t2_,t2_,t2_]] }
def ann134:FAnn:={ ops:=[[],[{},{},t1_,{},t1_,t1_,t1_,t2_,{},t2_],[{},{},t1_,{},t1_,t1_,t1_,t2_,{},t2_],[{},{},t1_,{},t1_,t1_,t1_,t2_,{},t2_]] }
def ann137:FAnn:={ ops:=[[],[{},t1_,t2_,t1_]] }
def ann138:FAnn:={ ops:=[[{},t1_,t1_],[{},{},t2_],[t1_,t1_,t1_],[{},t1_],[{},{},t2_,t1_,{},{},{},t2_,t1_,{},{},t1_,t2_,t1_,{ mode:=6 },t1_,{ takes:=[false,true] }],[t1_,t1_,t1_],[{},{},{},{},t1_,{},{},t1_,t2_,t1_,{},{},t2_,t1_,t2_,t2_,t2_,t2_]],keepL:=[(0,[i_,i_,i_,i_,o_,o_,o_,o_,i_,o_,o_,o_,o_,o_,o_,o_,o_,o_,o_,o_,o_,o_,o_,o_,o_,o_,o_,o_,o_,o_,o_,o_,o_,o_,o_,o_,o_,o_,o_,o_,o_,o_,o_,o_,o_,o_,o_,o_,o_,o_,o_,o_,o_]),(2,[i_,i_,i_,i_,o_,o_,o_,o_,i_,i_,o_,o_,o_,o_,o_,o_,o_,o_,o_,o_,o_,o_,o_,o_,o_,o_,o_,o_,o_,o_,o_,o_,o_,o_,o_,o_,o_,o_,o_,o_,o_,o_,o_,o_,o_,o_,o_,o_,o_,o_,o_,o_,o_])] }
def ann139:FAnn:={ ops:=[[],[],[],[],[],[],[],[],[],[],[{},{},{},{},{},t2_,{},{},{},t2_,t2_,t1_,{},{},t2_,t1_,t2_,t2_,t2_,t2_]] }
def ann140:FAnn:={ ops:=[[],[],[],[],[],[],[],[],[],[],[{},{},{},{},{},t2_,{},{},{},t2_,t2_,t1_,{},{},t2_,t1_,t2_,t2_,t2_,t2_]] }
def ann142:FAnn:={ ops:=[[],[],[],[{},{},{},{},{},{},t2_,t1_,{},{},t2_,t1_,t2_,t2_,t2_,t2_]] }
def ann143:FAnn:={ ops:=[[],[],[],[],[],[{},{},t2_,t1_,{},{},{},t2_,t1_,{},{},t1_,t2_,t1_,{ mode:=6 },t1_,t1_,{ takes:=[false,true] }],[],[],[],[],[],[{},{},{},{},t1_,{},{},t1_,t2_,t1_,{},{},t2_,t1_,t2_,t2_,t2_,t2_],[],[],[],[],[{},{},{},t2_,t1_,{},{},t1_,t2_,t1_,{ mode:=6 },t1_,t1_],[{},{},{},{},t1_,{},{},t1_,t2_,t1_,{},{},t2_,t1_,t2_,t2_,t2_,t2_],[],[],[],[],[{},{},{},t2_,t1_,{},{},t1_,t2_,t1_,{ mode:=6 },t1_,t1_],[{},{},{},{},t1_,{},{},t1_,t2_,t1_,{},{},t2_,t1_,t2_,t2_,t2_,t2_]] }
def ann144:FAnn:={ ops:=[[],[{},{},{},{},{},{},t2_,t1_,{},{},t2_,t1_,t2_,t2_,t2_,t2_],[],[{},{},t2_,t1_,{},{},{},t2_,t1_,{},{},t2_,t1_,{ mode:=6 },t1_,t1_,{ takes:=[false,true] }],[],[{},{},t2_,t1_,{},{},{},t2_,t1_,{},{},t2_,t1_,{ mode:=6 },t1_,{ takes:=[false,true] }],[],[],[{},{},{},{},{},{},t2_,t1_,{},{},t2_,t1_,t2_,t2_,t2_,t2_]] }
def ann145:FAnn:={ ops:=[[],[{},{},{},{},{},{},t2_,t1_,{},{},t2_,t1_,t2_,t2_,t2_,t2_],[],[{},{},t2_,t1_,{},{},{},t2_,t1_,{},{},t2_,t1_,{ mode:=6 },t1_,{ takes:=[false,true] }],[],[{},{},t2_,t1_,{},{},{},t2_,t1_,{},{},t2_,t1_,{ mode:=6 },t1_,t1_,{ takes:=[false,true] }],[],[],[{},{},{},{},{},{},t2_,t1_,{},{},t2_,t1_,t2_,t2_,t2_,t2_],[],[{},{},{},{},{},{},t2_,t1_,{},{},t2_,t1_,t2_,t2_,t2_,t2_],[],[],[{},{},t2_,t1_,{},{},{},t2_,t1_,{},{},t2_,t1_,{ mode:=6 },t1_,{ takes:=[false,true] }],[],[{},{},t2_,t1_,{},{},{},t2_,t1_,{},{},t2_,t1_,{ mode:=6 },t1_,t1_,{ takes:=[false,true] }],[],[],[{},{},{},{},{},{},t2_,t1_,{},{},t2_,t1_,t2_,t2_,t2_,t2_],[],[],[{},{},{},{},{},{},t2_,t1_,{},{},t2_,t1_,t2_,t2_,t2_,t2_]] }
def ann146:FAnn:={ ops:=[[],[{},t1_],[],[{},t1_],[{},{},{},t2_,t1_,t2_],[t1_,t1_],[t1_,t1_],[]],keepL:=[(0,[i_,i_,o_,o_,o_,o_,o_,i_,i_,o_,o_,o_,o_,o_,o_,o_,o_,o_,o_])] }
def ann147:FAnn:={ ops:=[[],[{},{},t2_,t1_,{},{},t2_,t1_,{ mode:=3 }]] }
def ann148:FAnn:={ ops:=[[],[],[],[{},t1_,{},t2_,t1_,{},{},{},{},t2_,t2_,t1_,{},{},{},t2_,t1_,t2_,t1_,{ mode:=6 },t1_,{ takes:=[false,true] }],[],[{},{},{},{},t2_,t2_,t1_,{},{},{},t2_,t2_,t1_,{ mode:=6 },t1_,t1_],[{},{},{},t2_,{},{},{},t2_,{},{},{},t2_,t2_,t1_,{},{},{},t2_,t2_,t1_,t2_,t2_,t2_,t2_]] }
def ann151:FAnn:={ ops:=[[],[t1_,{},{},t2_,t1_,{},{},t2_,t1_,{ mode:=6 },t1_]] }
def annL:List FAnn:=[{},{},ann2,ann3,{},{},{},ann7,ann8,ann9,ann10,ann11,ann12,ann13,ann14,ann15,ann16,ann17,ann18,ann19,ann20,ann21,ann22,ann23,{},ann25,ann26,ann27,{},ann29,{},ann31,{},ann33,ann34,ann35,{},ann37,ann38,ann39,{},ann41,ann42,ann43,{},ann45,{},ann47,{},{},ann50,ann51,ann52,ann53,ann54,{},ann56,ann57,ann58,ann59,ann60,ann61,ann62,ann63,ann64,ann65,ann66,ann67,ann68,ann69,ann70,ann71,ann72,ann73,ann74,ann75,ann76,ann77,{},ann79,ann80,ann81,ann82,ann83,ann84,ann85,{},{},{},ann89,ann90,ann91,ann92,ann93,ann94,ann95,ann96,ann97,ann98,ann99,ann100,ann101,ann102,ann103,ann104,ann105,ann106,ann107,ann108,ann109,ann110,ann111,ann112,ann113,ann114,ann115,ann116,ann117,{},ann119,ann120,ann121,ann122,ann123,ann124,ann125,ann126,ann127,ann128,ann129,ann130,ann131,ann132,{},ann134,{},{},ann137,ann138,ann139,ann140,{},ann142,ann143,ann144,ann145,ann146,ann147,ann148,{},{},ann151]
def ann (k:FuncId):FAnn:=annL.getD k {}
end Go.Proofs.YtfakoboiahbhaaaGreat.Ab


namespace Go.Proofs.YtfakoboiahbhaaaGreat.Ab
open Go
end Go.Proofs.YtfakoboiahbhaaaGreat.Ab


namespace Go.Proofs.YtfakoboiahbhaaaGreat.Ab
open Go
end Go.Proofs.YtfakoboiahbhaaaGreat.Ab


namespace Go.Proofs.YtfakoboiahbhaaaGreat.Ab
open Go
theorem hmix:Go.Proofs.Tryz.prog.follows .mixedOrders=true:=by kernel_rfl
abbrev PO (k:FuncId) (args:List AV) (v:AV):Prop:=PureOk Go.Proofs.Tryz.prog k args v
abbrev I (n:Int):AV:=.int .i64 n
abbrev J:AV:=.junk
abbrev B (b:Bool):AV:=.bool b
def L1 (l:List Int):AV:=.lst (l.map I) l.length .shared
def L2 (l:List (List Int)):AV:=.lst (l.map L1) l.length .shared
theorem wrapS (i:Nat) (h:i≤9223372036854775806):IntKind.i64.wrap ((i:Int)+1)=((i+1:Nat):Int):=by rw [IntKind.wrap_i64];omega
theorem wrapI (n:Int) (h1:-9223372036854775808≤n) (h2:n≤9223372036854775807):IntKind.i64.wrap n=n:=by rw [IntKind.wrap_i64];omega
theorem pureD_succ:∀ {d:Nat} {v:AV},pureD d v=true→pureD (d+1) v=true
 | 0,v,h=>by simp [pureD] at h
 | d+1,v,h=>by
   have key:∀ {l:List AV},l.all (pureD d)=true→l.all (pureD (d+1))=true:=fun h=>by
    rw [List.all_eq_true] at h ⊢;exact fun u hu=>pureD_succ (h u hu)
   cases v <;> simp only [pureD,Bool.and_eq_true,Bool.false_eq_true] at h ⊢ <;> first | trivial | exact key h | exact ⟨key h.1,key h.2⟩
theorem dcase {p:Prop} [Decidable p] {A C:Prop} (h1:p→A) (h2:¬ p→C):(match decide p with | true=>A | false=>C):=by
 by_cases h:p
 ·simp only [h,decide_true];exact h1 h
 ·simp only [h,decide_false];exact h2 h
theorem acc0 {k:FuncId} {xs:List AV} {v:AV}:∀ p∈([]:PAcc),p.1=k→p.2.1=xs→p.2.2=v:=fun _ h=>by simp at h
theorem acc1 {k k':FuncId} {xs ys:List AV} {v v':AV} (h:k'=k→ys=xs→v'=v):∀ p∈([(k',ys,v')]:PAcc),p.1=k→p.2.1=xs→p.2.2=v:=fun p hp=>by
 simp only [List.mem_singleton] at hp;subst hp;exact h
theorem accN {k:FuncId} {xs:List AV} {v:AV} {acc:PAcc} (h:acc.all (fun p=>p.1 != k)=true):∀ p∈acc,p.1=k→p.2.1=xs→p.2.2=v:=fun p hp e=>by
 have:=List.all_eq_true.1 h p hp
 simp [e] at this
def Boxes (cap:List AV):Prop:=cap.all (pureD 7)=true∧∀ u∈cap,∃ cs,u=.lptr cs
theorem Boxes.all8 {cap:List AV} (h:Boxes cap):cap.all (pureD 8)=true:=by
 have h1:=h.1
 rw [List.all_eq_true] at h1 ⊢;exact fun u hu=>pureD_succ (h1 u hu)
theorem Boxes.shz {cap:List AV} (h:Boxes cap) (H:List AObj):cap.map (shz H)=cap:=by
 conv=>rhs;rw [←List.map_id cap]
 apply List.map_congr_left;intro u hu;obtain ⟨cs,rfl⟩:=h.2 u hu;rfl
theorem Boxes.shz0 {cap:List AV} (h:Boxes cap) (H:List AObj):cap.map (shz0 H)=cap:=by
 conv=>rhs;rw [←List.map_id cap]
 apply List.map_congr_left;intro u hu;obtain ⟨cs,rfl⟩:=h.2 u hu;rfl
theorem Boxes.dim {cap:List AV} (h:Boxes cap):cap.map AV.dim=cap:=by
 conv=>rhs;rw [←List.map_id cap]
 apply List.map_congr_left;intro u hu;obtain ⟨cs,rfl⟩:=h.2 u hu;rfl
theorem Boxes.fn {cap:List AV} (h:Boxes cap) (H:List AObj) (k:FuncId):Ab.shz H (.func k [] cap)=.func k [] cap:=by
 simp only [Ab.shz,h.shz0,List.map_nil]
theorem Boxes.pfn {cap:List AV} (h:Boxes cap) (k:FuncId):pureD 8 (.func k [] cap)=true:=by
 show (([]:List AV).all (pureD 7) && cap.all (pureD 7))=true
 rw [h.1];rfl
theorem Boxes.nil:Boxes []:=⟨rfl,by simp⟩
section
variable {P:Program}
theorem call6 {k:FuncId} {xs bs:List AV} {H:List AObj} {lo:Nat} {v:AV} (hb:(xs.map (shz H)).map AV.dim=bs) (hp:(xs.map (shz H)).all (pureD 8)=true) (h:PureOk P k bs v) (hs:scal v=true):CallS P 6 lo (.fn k) xs H v.dim H:=by
 subst hb
 refine ⟨oneC (.fn k) ((xs.map (shz H)).map AV.dim) [] 0 v [],oneC_sound h.1,?_⟩
 simp only [callTo,hp,oneC_self,Option.bind_some,frz_pure h.2,hs]
end
theorem frz_ptr {H:List AObj} {id d:Nat} {l:List AV} (h:H[id]?=some (.cells l)) (hp:(l.map AV.view).all (pureD d)=true):frz H 0 H.length 0 (d+1) (.ptr id 0)=some (.lptr (l.map AV.view)):=by
 have h1:=(List.getElem?_eq_some_iff.1 h).1
 have h2:mapO (frz H 0 H.length 0 d) (l.map AV.view)=some (l.map AV.view):=mapO_id fun u hu=>frz_pure (by rw [List.all_eq_true] at hp;exact hp u hu)
 simp only [frz,Nat.not_lt_zero,if_false,h,List.drop_zero,h2,Option.map_some]
 rw [if_neg (by omega)]
end Go.Proofs.YtfakoboiahbhaaaGreat.Ab


namespace Go.Proofs.YtfakoboiahbhaaaGreat.Ab
open Go Go.ChangeShapes Go.WideShapes Go.ChangeAt Go.RowKit
def S0 (w:World):Nat→Nat→Prop:=fun b o=>∃ v,w.cell? ⟨b,o,none⟩=some v
theorem hrel0 (w:World):HRel w.heap.size (fun _=>none) [] (S0 w) w [] :=
 ⟨rfl,fun _ _ h=>by simp at h,fun _ _ h=>h,fun _ _ h=>by simp at h,Nat.le_refl _⟩
theorem top_calls {P:Program} {k:FuncId} {args:List AV} {vs:List Value} {W:World} {b:Bool} (h:PureOk P k args (.bool b)) (hv:VRel (fun i=>.arg i) (fun _=>none) [] (S0 W) W args vs) :
  Calls P k vs.toArray W fun e W'=>e=.returned (.bool b)∧Below W.heap.size W W':=by
 have h1:=h.1.2.2 W.heap.size (fun _=>none) [] (S0 W) W vs (hrel0 W) (fun _ _ h=>by simp at h) hv
 refine (callsIn_wide.1 h1).mono fun e W' he=>?_
 cases e with
 | returned v =>
   obtain ⟨ω',κ',S',_,ev,_,hr,_⟩:=he
   cases hr
   exact ⟨rfl,ev.os,ev.tape,ev.output,ev.size,fun b hb=>ev.keep b hb rfl⟩
 | panicked c=>exact he.elim
 | outgrown=>exact he.elim
section
variable {H:Type} {enc:TypeId×Value→H} {P:Program} {w:World}
theorem again_all {W W':World} (K:Kids P (·<P.types.size)) (hsz:∀ t e,t<P.types.size→P.underlying t=some (.slice e)→0<P.cellsOf e) (hB:Below W.heap.size W W') {sp:Nat→Bool} :
  ∀ {ts:List TypeId} {vs:List Value} {ds:List (DataW H)} {p:List MemPlace},(∀ t∈ts,t<P.types.size)→DataW.TrodAll enc P W 0 (fun _=>true) true ts vs ds p→(∀ x∈p,sp x.block=true)→(∀ x∈p,x.block<W.heap.size)→DataW.TrodAll enc P W' 0 sp true ts vs ds p
 | [],_,_,_,_,hA,_,_=>by obtain ⟨rfl,rfl,rfl⟩:=trodAll_nil hA;exact trodAll_mk0
 | t::ts,_,_,_,hT,hA,hsp,hlt=>by
   obtain ⟨v,vs,d,ds,a,b,rfl,rfl,rfl,⟨n,hn⟩,h2⟩:=trodAll_cons hA
   refine ⟨a,b,⟨n,?_⟩,again_all K hsz hB (fun t ht=>hT t (List.mem_cons_of_mem _ ht)) h2 (fun x hx=>hsp x (List.mem_append_right _ hx)) (fun x hx=>hlt x (List.mem_append_right _ hx)),rfl⟩
   exact DataW.trod_stays K (fun {t e} ht he=>hsz t e ht he) (fun h=>by cases h) (hT t List.mem_cons_self) hn (fun x hx=>hB.same (hlt x (List.mem_append_left _ hx))) fun x hx=>hsp x (List.mem_append_left _ hx)
theorem post_true {f:Func} {s:ChangeSpec} {again:Bool} {W W':World} {args:Array Value} {t:TypeId} {ds gs:List (DataW H)} {before:List MemPlace}
  (hl:laidOutB P=true) (hm:mapsRowed P=true) (hz:((List.range P.types.size).all fun t=>match P.underlying t with | some (.slice e)=>decide (0<P.cellsOf e) | _=>true)=true)
  (ht:f.resultTypes=#[t]) (hbt:P.underlying t=some .bool) (hps:f.params.toList.all (fun t=>decide (t<P.types.size))=true) (hvars:s.vars=[])
  (hW:DataW.Whole enc P f.params.toList s.vars false W args.toList ds gs before) (hB:Below W.heap.size W W')
  (hs:s.fn H (ds++gs)={ results:=[.lit (.bool true)],args:=ds }):s.post enc P f false true false again W args (.bool true) W':=by
 have hlt:=hW.lt
 have hW2:=hW
 obtain ⟨p,q,hA,hV,rfl,hfz,hnd⟩:=hW2
 rw [hvars] at hV
 obtain ⟨rfl,rfl⟩:=trodVars_none hV
 rw [List.append_nil] at *
 have K:Kids P (·<P.types.size):=kids_rows hl hm
 have hsz:=slices_full_of P hz
 have hT:∀ t∈f.params.toList,t<P.types.size:=fun t h=>by
  have:=List.all_eq_true.1 hps t h;simpa using this
 have again:∀ sp:Nat→Bool,(∀ x∈p,sp x.block=true)→DataW.TrodAll enc P W' 0 sp true f.params.toList args.toList ds p:=fun sp hsp =>
  again_all K hsz hB hT hA hsp hlt
 have hres:∀ (b:Nat) (sp:Nat→Bool) (hd:Bool),DataW.TrodAll enc P W' b sp hd f.resultTypes.toList ((Value.bool true).resultList f.resultTypes.size) (s.fn H ds).results []:=fun b sp hd=>by
  rw [hs,ht]
  exact trodAll_mk1 (shut_bool hbt true)
 have hargs:∀ sp:Nat→Bool,(∀ x∈p,sp x.block=true)→DataW.TrodAll enc P W' 0 sp true f.params.toList args.toList (s.fn H ds).args p:=fun sp hsp=>by
  rw [hs];exact again sp hsp
 have hv:∀ sp:Nat→Bool,DataW.TrodVars enc P W' sp s.vars (s.fn H ds).vars []:=fun sp=>by
  rw [hs,hvars];rfl
 have hold:∀ x∈p,(fun b=>decide (b<W.heap.size)) x.block=true:=fun x hx=>by simpa using hlt x hx
 refine ⟨ds,[],p,[],p,[],hW,by rw [List.append_nil];exact hres _ _ _,by rw [List.append_nil];exact hargs _ hold,by rw [List.append_nil];exact hv _,hB.frame _,fun _=>?_⟩
 refine ⟨fun j u r hu hr=>?_,(s.fn H ds).results++(s.fn H ds).args,[],p,⟨p,[],?_,?_,by simp,?_,fun h=>by cases h⟩,fun x hx _=>hx⟩
 ·rw [ht] at hu hr
  cases j with
  | zero=>simp [Value.resultList] at hu hr;subst hu;subst hr;exact okWide_bool_mk hbt true
  | succ j=>simp at hu
 ·have:=trodAll_append (hargs (fun _=>true) fun _ _=>rfl) (hres 0 (fun _=>true) true)
  simpa using this
 ·rw [hvars];rfl
 ·intro b o hb
  have:=hlt _ hb
  rw [hB.frozen (p:=⟨b,o,none⟩) this]
  exact hfz b o hb
abbrev Cel (enc:TypeId×Value→H) (P:Program) (w:World) (e:TypeId) (Q:AV→Prop):Prop :=
 ∀ n v y,DataW.trod enc P w 0 (fun _=>true) true n e [v]=some y→∃ u,u.plain=true∧v.oneCell'=true∧Rel [] (S0 w) w u v∧Q u
theorem cel_int {e:TypeId} {k:IntKind} (ht:P.underlying e=some (.int k)):Cel enc P w e fun u=>∃ x,u=.int k x∧(Lit.int k x).wf=true:=by
 intro n v y h
 obtain ⟨x,hx,_,hw⟩:=DataW.trod_int ht h
 injection hx with hx _
 subst hx
 exact ⟨.int k x,rfl,rfl,.int k x,x,rfl,hw⟩
instance:Inhabited AV:=⟨.junk⟩
def Fi (x:Int):Prop := -9223372036854775808≤x∧x≤9223372036854775807
theorem wf_i64 {x:Int} (h:(Lit.int .i64 x).wf=true):Fi x:=by
 have h1:IntKind.i64.min=-9223372036854775808:=rfl
 have h2:IntKind.i64.max=9223372036854775807:=rfl
 simp only [Lit.wf,Bool.and_eq_true,decide_eq_true_eq] at h
 exact ⟨by omega,by omega⟩
theorem wf_u8 {x:Int} (h:(Lit.int .u8 x).wf=true):0≤x∧x≤255:=by
 have h1:IntKind.u8.min=0:=rfl
 have h2:IntKind.u8.max=255:=rfl
 simp only [Lit.wf,Bool.and_eq_true,decide_eq_true_eq] at h
 exact ⟨by omega,by omega⟩
structure Fl (l:List Int):Prop where
 n:l.length≤9223372036854775807
 v:∀ x∈l,Fi x
structure Fl2 (l:List (List Int)):Prop where
 n:l.length≤9223372036854775807
 v:∀ r∈l,Fl r
theorem maxLen_le {n:Nat} (h:n≤maxLen):n≤9223372036854775807:=by unfold maxLen at h;omega
structure Fy (l:List Int):Prop where
 n:l.length≤9223372036854775807
 v:∀ x∈l,0≤x∧x≤255
abbrev Arg (enc:TypeId×Value→H) (P:Program) (w:World) (base:Nat) (t:TypeId) (Q:AV→Prop):Prop :=
 ∀ v d p,Value.okWide P w .any base t v→DataW.Trod enc P w 0 (fun _=>true) true t v d p→∃ u,u.plain=true∧Rel [] (S0 w) w u v∧Q u
theorem arg_int {base:Nat} {t:TypeId} {k:IntKind} (ht:P.underlying t=some (.int k)):Arg enc P w base t fun u=>∃ x,u=.int k x∧(Lit.int k x).wf=true:=by
 intro v d p hv hd
 obtain ⟨x,rfl,_,_,hw⟩:=open_int ht hv hd
 exact ⟨.int k x,rfl,.int k x,x,rfl,hw⟩
theorem vrel_of {us:List AV} {vs:List Value} (h:us.length=vs.length) (hr:∀ (i:Nat) (u:AV) (v:Value),us[i]?=some u→vs[i]?=some v→u.plain=true∧Rel [] (S0 w) w u v):VRel (fun i=>.arg i) (fun _=>none) [] (S0 w) w us vs :=
 ⟨h,fun i u v hu hv=>(hr i u v hu hv).2,fun i u v hu hv=>OwnAt.of_plain (hr i u v hu hv).1⟩
theorem vrel_three {u0 u1 u2:AV} {v0 v1 v2:Value} (p0:u0.plain=true) (r0:Rel [] (S0 w) w u0 v0) (p1:u1.plain=true) (r1:Rel [] (S0 w) w u1 v1) (p2:u2.plain=true) (r2:Rel [] (S0 w) w u2 v2) :
  VRel (fun i=>.arg i) (fun _=>none) [] (S0 w) w [u0,u1,u2] [v0,v1,v2] :=
 vrel_of rfl fun i u v hu hv=>by
  match i with
  | 0=>simp at hu hv;subst hu;subst hv;exact ⟨p0,r0⟩
  | 1=>simp at hu hv;subst hu;subst hv;exact ⟨p1,r1⟩
  | 2=>simp at hu hv;subst hu;subst hv;exact ⟨p2,r2⟩
  | i+3=>simp at hu
end
end Go.Proofs.YtfakoboiahbhaaaGreat.Ab


namespace Go.Proofs.YtfakoboiahbhaaaGreat.Ab
open Go Go.ChangeShapes Go.WideShapes Go.ChangeAt Go.RowKit
section
variable {H:Type} {enc:TypeId×Value→H} {P:Program} {w:World}
theorem map_of' {α β:Type} {f:α→β} {R:α→Prop}:∀ {l:List β},(∀ u∈l,∃ x,u=f x∧R x)→∃ zs:List α,l=zs.map f∧∀ x∈zs,R x
 | [],_=>⟨[],rfl,by simp⟩
 | u::l,h=>by
   obtain ⟨x,rfl,hx⟩:=h u (by simp)
   obtain ⟨zs,rfl,hz⟩:=map_of' (l:=l) fun y hy=>h y (by simp [hy])
   exact ⟨x::zs,rfl,by simpa using ⟨hx,hz⟩⟩
def Flds (enc:TypeId×Value→H) (P:Program) (w:World) (fs:Array Field) (Qs:List (AV→Prop)):Prop :=
 Qs.length=fs.size∧∀ (i:Nat) (f:Field) (q:AV→Prop),fs[i]?=some f→Qs[i]?=some q→f.offset=i∧P.cellsOf f.type=1∧Cel enc P w f.type q
def AllQ (Qs:List (AV→Prop)) (us:List AV):Prop:=us.length=Qs.length∧∀ (i:Nat) (u:AV) (q:AV→Prop),us[i]?=some u→Qs[i]?=some q→q u
theorem struct_cells {t:TypeId} {fs:Array Field} {Qs:List (AV→Prop)} (ht:P.underlying t=some (.struct fs)) (hc:P.cellsOf t=fs.size) (hf:Flds enc P w fs Qs) {n:Nat} {cs:List Value} {y:DataW H×List MemPlace}
  (h:DataW.trod enc P w 0 (fun _=>true) true n t cs=some y):∃ us:List AV,AllQ Qs us∧cs.length=us.length∧∀ (j:Nat) (u:AV) (v:Value),us[j]?=some u→cs[j]?=some v→u.plain=true∧v.oneCell'=true∧Rel [] (S0 w) w u v:=by
 obtain ⟨xs,m,_,_,hl,hxl,hx⟩:=DataW.trod_struct ht h
 rw [hc] at hl
 have each:∀ i,i<fs.size→∃ u:AV,(∀ v,cs[i]?=some v→u.plain=true∧v.oneCell'=true∧Rel [] (S0 w) w u v)∧∀ q,Qs[i]?=some q→q u:=fun i hi=>by
  have h1:fs[i]?=some fs[i]:=Array.getElem?_eq_getElem hi
  have hq:i<Qs.length:=by rw [hf.1];exact hi
  have h2:Qs[i]?=some Qs[i]:=List.getElem?_eq_getElem hq
  obtain ⟨e1,e2,e3⟩:=hf.2 i _ _ h1 h2
  have h3:=hx i _ h1
  rw [e1,e2] at h3
  have hic:i<cs.length:=by omega
  rw [List.drop_eq_getElem_cons hic,List.getElem?_eq_getElem (by omega)] at h3
  simp only [List.take_succ_cons,List.take_zero] at h3
  obtain ⟨u,a1,a2,a3,a4⟩:=e3 _ _ _ h3
  refine ⟨u,fun v hv=>?_,fun q hq'=>?_⟩
  ·rw [List.getElem?_eq_getElem hic] at hv;cases hv;exact ⟨a1,a2,a3⟩
  ·rw [h2] at hq';cases hq';exact a4
 obtain ⟨U,hU⟩:=Deep.choose_lt (α:=AV) (n:=fs.size) (p:=fun i u=>(∀ v,cs[i]?=some v→u.plain=true∧v.oneCell'=true∧Rel [] (S0 w) w u v)∧∀ q,Qs[i]?=some q→q u) each
 have get:∀ (i:Nat) (u:AV),((List.range fs.size).map U)[i]?=some u→i<fs.size∧u=U i:=fun i u hu=>by
  have hi:i<fs.size:=by have:=(List.getElem?_eq_some_iff.1 hu).1;simpa using this
  simp [hi] at hu;exact ⟨hi,hu.symm⟩
 refine ⟨(List.range fs.size).map U,⟨by simp [hf.1],fun i u q hu hq=>?_⟩,by simp [hl],fun j u v hu hv=>?_⟩
 ·obtain ⟨hi,rfl⟩:=get i u hu;exact (hU i hi).2 q hq
 ·obtain ⟨hi,rfl⟩:=get j u hu;exact (hU j hi).1 v hv
theorem arg_struct {base:Nat} {t:TypeId} {fs:Array Field} {Qs:List (AV→Prop)} (ht:P.underlying t=some (.struct fs)) (hc:P.cellsOf t=fs.size) (hf:Flds enc P w fs Qs):Arg enc P w base t fun u=>∃ us,u=.agg us∧AllQ Qs us:=by
 intro v d p hv ⟨n,hd⟩
 unfold Value.okWide at hv
 rw [ht] at hv
 obtain ⟨cs,rfl,hsz,_⟩:=hv
 obtain ⟨us,h1,h2,h3⟩:=struct_cells ht hc hf hd
 have h2:cs.toList.length=us.length:=h2
 refine ⟨.agg us,rfl,.agg us cs (by simpa using h2) (fun u hu=>?_) (fun v hv=>?_) fun j u v hu hv=>?_,us,rfl,h1⟩
 ·obtain ⟨j,hj⟩:=List.mem_iff_getElem?.1 hu
  have hlt:j<cs.toList.length:=by rw [h2];exact (List.getElem?_eq_some_iff.1 hj).1
  exact (h3 j u _ hj (List.getElem?_eq_getElem hlt)).1
 ·obtain ⟨j,hj⟩:=List.mem_iff_getElem?.1 hv
  have hlt:j<us.length:=by rw [←h2];exact (List.getElem?_eq_some_iff.1 hj).1
  exact (h3 j _ v (List.getElem?_eq_getElem hlt) hj).2.1
 ·exact (h3 j u v hu (by show cs.toList[j]?=some v;simpa using hv)).2.2
theorem flatten_get {s:Nat}:∀ {L:List (List AV)} {j:Nat} {u:AV},(∀ l∈L,l.length=s)→0<s→L.flatten[j]?=some u→∃ l,L[j / s]?=some l∧l[j % s]?=some u
 | [],j,u,_,_,h=>by simp at h
 | l::L,j,u,hl,hs,h=>by
   have h0:l.length=s:=hl l (by simp)
   rw [List.flatten_cons] at h
   by_cases hj:j<s
   ·rw [List.getElem?_append_left (by omega)] at h
    exact ⟨l,by rw [Nat.div_eq_of_lt hj];rfl,by rw [Nat.mod_eq_of_lt hj];exact h⟩
   ·rw [List.getElem?_append_right (by omega),h0] at h
    obtain ⟨k,a,b⟩:=flatten_get (s:=s) (fun x hx=>hl x (by simp [hx])) hs h
    have e1:j / s=(j-s) / s+1:=by rw [Nat.div_eq_sub_div hs (by omega)]
    have e2:j % s=(j-s) % s:=by rw [Nat.mod_eq_sub_mod (by omega)]
    exact ⟨k,by rw [e1];simpa using a,by rw [e2];exact b⟩
theorem cel_structs {t e:TypeId} {fs:Array Field} {Qs:List (AV→Prop)} (ht:P.underlying t=some (.slice e)) (he:P.underlying e=some (.struct fs)) (hc:P.cellsOf e=fs.size) (h0:0<fs.size) (hf:Flds enc P w fs Qs) :
  Cel enc P w t fun u=>∃ L:List (List AV),u=.lst L.flatten L.length .shared∧L.length≤maxLen∧∀ us∈L,AllQ Qs us:=by
 intro fuel v x h
 rcases Deep.open_slice ht h with ⟨hv,_⟩ | ⟨a,len,cap,m,n,D,Pl,hv,_,hl,hm,hmm,_,hx⟩
 ·injection hv with hv _;subst hv
  exact ⟨_,rfl,rfl,.lnil _ _,[],rfl,Nat.zero_le _,by simp⟩
 ·injection hv with hv _;subst hv
  have hmm:m=cap:=hmm
  by_cases hc0:cap=0
  ·subst hc0;obtain rfl:len=0:=by omega
   exact ⟨_,rfl,rfl,.lnil _ _,[],rfl,Nat.zero_le _,by simp⟩
  ·have each:∀ i,i<len→∃ q:List AV×List Value,AllQ Qs q.1∧q.2.length=fs.size∧w.cells? 0 (a.add (i*fs.size)) fs.size=some q.2∧∀ (j:Nat) (u:AV) (v:Value),q.1[j]?=some u→q.2[j]?=some v→u.plain=true∧v.oneCell'=true∧Rel [] (S0 w) w u v:=fun i hi=>by
    obtain ⟨cs',h1,h2⟩:=hx i (by omega)
    rw [hc] at h1
    obtain ⟨us,b1,b2,b3⟩:=struct_cells he hc hf h2
    exact ⟨(us,cs'),b1,by have:=b1.1;rw [b2,this,hf.1],h1,b3⟩
   obtain ⟨q0,_,_,hq0,_⟩:∃ q:List Value,True∧True∧w.cells? 0 (a.add (0*fs.size)) fs.size=some q∧True:=by
    obtain ⟨cs',h1,_⟩:=hx 0 (by omega);rw [hc] at h1;exact ⟨cs',trivial,trivial,h1,trivial⟩
   obtain ⟨b,o,sp⟩:=a
   have hs:sp=none:=by
    obtain ⟨_,hlen,hcell⟩:=World.cells?_some hq0
    have:=hcell 0 h0
    rw [List.getElem?_eq_getElem (by omega)] at this
    simpa [Addr.add] using World.cell?_spot this
   subst hs
   obtain ⟨U,hU⟩:=Deep.choose_lt (α:=List AV×List Value) (n:=len) (p:=fun i q=>AllQ Qs q.1∧q.2.length=fs.size∧w.cells? 0 (Addr.add ⟨b,o,none⟩ (i*fs.size)) fs.size=some q.2∧∀ (j:Nat) (u:AV) (v:Value),q.1[j]?=some u→q.2[j]?=some v→u.plain=true∧v.oneCell'=true∧Rel [] (S0 w) w u v) each
   have hUl:∀ i,i<len→(U i).1.length=fs.size:=fun i hi=>by have:=(hU i hi).1.1;rw [this,hf.1]
   have hall:∀ l∈((List.range len).map fun i=>(U i).1),l.length=fs.size:=fun l hl'=>by
    obtain ⟨i,hi,rfl⟩:=List.mem_map.1 hl';exact hUl i (List.mem_range.1 hi)
   let V:Nat→Value:=fun j=>((U (j / fs.size)).2)[j % fs.size]!
   have key:∀ (j:Nat) (u:AV),(((List.range len).map fun i=>(U i).1).flatten)[j]?=some u→w.cell? ⟨b,o+j,none⟩=some (V j)∧u.plain=true∧(V j).oneCell'=true∧Rel [] (S0 w) w u (V j):=fun j u hj=>by
    obtain ⟨l,g1,g2⟩:=flatten_get hall h0 hj
    have hi:j / fs.size<len:=by have:=(List.getElem?_eq_some_iff.1 g1).1;simpa using this
    simp [hi] at g1;subst g1
    obtain ⟨c1,c2,c3,c4⟩:=hU _ hi
    have hmod:j % fs.size<fs.size:=Nat.mod_lt _ h0
    have hv:(U (j / fs.size)).2[j % fs.size]?=some (V j):=by
     show _=some ((U (j / fs.size)).2[j % fs.size]!)
     rw [List.getElem?_eq_getElem (by omega),getElem!_pos _ _ (by omega)]
    obtain ⟨_,_,hcell⟩:=World.cells?_some c3
    have hc':=hcell (j % fs.size) hmod
    rw [hv] at hc'
    have e:(Addr.add (Addr.add ⟨b,o,none⟩ (j / fs.size*fs.size)) (j % fs.size))=⟨b,o+j,none⟩:=by
     simp only [add_lit]
     congr 1
     have:=Nat.div_add_mod' j fs.size
     omega
    rw [e] at hc'
    exact ⟨hc',c4 _ _ _ g2 hv⟩
   refine ⟨.lst ((List.range len).map fun i=>(U i).1).flatten len .shared,rfl,rfl,.lst _ _ _ b o cap V (by simp) hl (by simp) (fun j u hj=>?_) (fun j u hj=>?_),(List.range len).map fun i=>(U i).1,by simp,by simp;omega,fun us hu=>?_⟩
   ·obtain ⟨k1,k2,k3,_⟩:=key j u hj
    exact ⟨⟨_,k1⟩,k1,k2,k3⟩
   ·exact (key j u hj).2.2.2
   ·obtain ⟨j,hj,rfl⟩:=List.mem_map.1 hu
    exact (hU j (List.mem_range.1 hj)).1
end
end Go.Proofs.YtfakoboiahbhaaaGreat.Ab


namespace Go.Proofs.YtfakoboiahbhaaaGreat.Ab
open Go
section
variable {P:Program}
theorem fn_sem (hmix:P.follows .mixedOrders=true) {k:Nat} {A:FAnn} {rc:RC} {n:Nat} {ts:List RV} (hl:linkF P A k=some (rc,n,ts)) {lo:Nat} {args T:List AV} {H H':List AObj} (hT:args++List.replicate (n-args.length) .junk=T) {v:AV} (hlow:Low lo H H')
  (h:wpR P A k lo none rc T H fun e T1 H1=>(e=.normal∨e=.ret)∧Fgt H1 H'∧(readR H1 T1 ts).map packResults=some v):Sem P (.fn k) args H lo v H':=by
 unfold linkF at hl
 split at hl
 ·rename_i f hf
  split at hl
  ·rename_i c hb
   split at hl
   ·rename_i rc' ts' h1 h2 h3 h4
    simp only [Option.some.injEq,Prod.mk.injEq] at hl
    obtain ⟨rfl,rfl,rfl⟩:=hl
    subst hT
    refine sem_fn hmix hf hb (by simpa using h2) h1 hlow (wpA_mono (fun e s hq=>?_) (link_ok h3 h))
    obtain ⟨g1,g2,g3⟩:=hq
    simp only [Option.map_eq_some_iff] at g3
    obtain ⟨vs,g3,g4⟩:=g3
    exact ⟨g1,g2,vs,by rw [readR_eq _ _ h4,g3],g4⟩
   ·cases hl
  ·cases hl
 ·cases hl
end
theorem fn_semQ {P:Program} (hmix:P.follows .mixedOrders=true) {k:Nat} {A:FAnn} {rc:RC} {n:Nat} {ts:List RV} (hl:linkF P A k=some (rc,n,ts)) {lo:Nat} {args T:List AV} {H H':List AObj} (hT:args++List.replicate (n-args.length) .junk=T) {v:AV} (hlow:Low lo H H')
  (h:∀ Q:Ex→List AV→List AObj→Prop,(∀ e T1 H1,(e=.normal∨e=.ret)∧Fgt H1 H'∧(readR H1 T1 ts).map packResults=some v→Q e T1 H1)→wpR P A k lo none rc T H Q):Sem P (.fn k) args H lo v H' :=
 fn_sem hmix hl hT hlow (h _ fun _ _ _ h=>h)
theorem wpG {P:Program} {A:FAnn} {fn:FuncId} {lo:Nat} {rl:Option Nat} {c:RC} {T:List AV} {H:List AObj} {K:Ex→List AV→List AObj→Prop} (h:∀ K':Ex→List AV→List AObj→Prop,(∀ e T H,K e T H→K' e T H)→wpR P A fn lo rl c T H K'):wpR P A fn lo rl c T H K:=h K fun _ _ _ h=>h
theorem call1 {P:Program} {lo:Nat} {tgt:Tgt} {xs:List AV} {H H':List AObj} {v:AV} (h:Sem P tgt xs H lo v H'):CallS P 1 lo tgt xs H v H' :=
 ⟨oneC tgt xs H lo v H',oneC_sound h,by simp only [callTo,oneC_self]⟩
theorem ga {X Z:List AObj} {j:Nat} {o:AObj} (h:X[j]?=some o):(X++Z)[j]?=some o:=by
 rw [List.getElem?_append_left (List.getElem?_eq_some_iff.1 h).1];exact h
theorem set_concat (X:List AObj) (c c':AObj):(X++[c]).set X.length c'=X++[c']:=by simp
theorem get_concat (X:List AObj) (c:AObj):(X++[c])[X.length]?=some c:=by simp
end Go.Proofs.YtfakoboiahbhaaaGreat.Ab


namespace Go.Proofs.YtfakoboiahbhaaaGreat.Ab
open Go
def FU:Nat:=18446744073709551616
theorem FU_lt {n:Nat} (h:n≤9223372036854775808):n<FU:=by unfold FU;omega
def gd (p:Prop) [Decidable p] {ρ:Type} (k:Option ρ):Option ρ:=if p then k else none
theorem gd_some {p:Prop} [Decidable p] {ρ:Type} {k:Option ρ} {v:ρ} (h:gd p k=some v):p∧k=some v:=by
 unfold gd at h;split at h
 ·exact ⟨by assumption,h⟩
 ·cases h
theorem gd_pos {p:Prop} [Decidable p] {ρ:Type} {k:Option ρ} (h:p):gd p k=k:=if_pos h
theorem bd_some {α ρ:Type} {x:Option α} {f:α→Option ρ} {v:ρ} (h:x.bind f=some v):∃ a,x=some a∧f a=some v:=by
 cases x with
 | none=>cases h
 | some a=>exact ⟨a,rfl,h⟩
theorem it_t {b:Bool} {ρ:Type} {x y:Option ρ} {v:ρ} (hb:b=true) (h:(if b=true then x else y)=some v):x=some v:=by
 rw [if_pos hb] at h;exact h
theorem it_f {b:Bool} {ρ:Type} {x y:Option ρ} {v:ρ} (hb:b=false) (h:(if b=true then x else y)=some v):y=some v:=by
 rw [if_neg (by rw [hb];decide)] at h;exact h
theorem bt (b:Bool):b=true∨b=false:=by cases b <;> simp
def ix {α:Type} [Inhabited α] (l:List α) (i:Int):α:=l.getD i.toNat default
theorem ix_nat {α:Type} [Inhabited α] {l:List α} {k:Nat} (h:k<l.length):ix l (k:Int)=l[k]:=by
 simp [ix,h]
theorem ix_of {α:Type} [Inhabited α] {l:List α} {i:Int} (h:0≤i∧i<(l.length:Int)):ix l i=l[i.toNat]'(by omega):=by
 have:i.toNat<l.length:=by omega
 simp [ix,this]
abbrev w (n:Int):Int:=IntKind.i64.wrap n
theorem w_eq {n:Int} (h1:-9223372036854775808≤n) (h2:n≤9223372036854775807):w n=n:=wrapI n h1 h2
theorem none_ne {ρ:Type} {v:ρ} {G:Prop} (h:(none:Option ρ)=some v):G:=by cases h
theorem drop1 {α:Type} [Inhabited α] (f:α→AV) (l:List α) (n:Int) (h:0≤n∧n<(l.length:Int)):(l.map f).drop (n.toNat*1)=f (ix l n)::(l.drop (n.toNat+1)).map f:=by
 have h':n.toNat<l.length:=by omega
 rw [Nat.mul_one,←List.map_drop,List.drop_eq_getElem_cons h',List.map_cons,ix_of h]
theorem dropS {α:Type} [Inhabited α] (f:α→List AV) (s:Nat) (hs:∀ x,(f x).length=s):∀ (l:List α) (n:Int),0≤n∧n<(l.length:Int)→(l.flatMap f).drop (n.toNat*s)=f (ix l n)++(l.drop (n.toNat+1)).flatMap f:=by
 have key:∀ (l:List α) (k:Nat) (h:k<l.length),(l.flatMap f).drop (k*s)=f l[k]++(l.drop (k+1)).flatMap f:=by
  intro l
  induction l with
  | nil=>intro k h;simp at h
  | cons x l ih =>
    intro k h
    cases k with
    | zero=>simp
    | succ k =>
      have hk:k<l.length:=by simpa using h
      have e:(k+1)*s=(f x).length+k*s:=by rw [hs,Nat.add_mul,Nat.one_mul,Nat.add_comm]
      rw [List.flatMap_cons,e,List.drop_length_add_append,ih k hk]
      rfl
 intro l n h
 rw [key l n.toNat (by omega),ix_of h]
theorem flatLen {α:Type} (f:α→List AV) (s:Nat) (hs:∀ x,(f x).length=s) (l:List α):(l.flatMap f).length=l.length*s:=by
 induction l with
 | nil=>simp
 | cons x l ih=>rw [List.flatMap_cons,List.length_append,ih,hs,List.length_cons,Nat.add_mul,Nat.one_mul,Nat.add_comm]
theorem apnd1 {α:Type} (f:α→AV) (l:List α) (x:α) (c:Cap):AV.lst (l.map f++[f x]) (l.length+1) c=.lst ((l++[x]).map f) (l++[x]).length c:=by
 rw [List.map_append,List.length_append];rfl
theorem apndS {α:Type} (f:α→List AV) (l:List α) (x:α) (c:Cap):AV.lst (l.flatMap f++f x) (l.length+1) c=.lst ((l++[x]).flatMap f) (l++[x]).length c:=by
 simp [List.flatMap_append]
theorem rdD {α:Type} [Inhabited α] (f:α→AV) (l:List α) (n:Int) (h:0≤n∧n<(l.length:Int)) {K:AV→Prop} (k:K (f (ix l n))):nthK (l.map f) (0+n.toNat*1) K:=by
 have h':n.toNat<l.length:=by omega
 refine nthK_of (x:=f (ix l n)) ?_ k
 rw [Nat.zero_add,Nat.mul_one,List.getElem?_map,List.getElem?_eq_getElem h',ix_of h];rfl
theorem updD {α:Type} (f:α→AV) (l:List α) (n:Int) (x:α) (h:0≤n∧n<(l.length:Int)) {K:List AV→Prop} (k:K ((l.set n.toNat x).map f)):updK (l.map f) (0+n.toNat*1) (f x) K:=by
 have h':n.toNat<l.length:=by omega
 refine updK_of (by simpa using h') ?_
 rw [Nat.zero_add,Nat.mul_one,←List.map_set];exact k
theorem and2 {a b:Bool} (h:a=true) (k:b=true):(a && b)=true:=by rw [h,k];rfl
theorem allc {α:Type} {f:α→Bool} {x:α} {l:List α} (h:f x=true) (k:l.all f=true):(x::l).all f=true:=and2 h k
theorem pu_agg {cs:List AV} {d:Nat} (h:cs.all (pureD d)=true):pureD (d+1) (.agg cs)=true:=h
theorem pu_lptr {cs:List AV} {d:Nat} (h:cs.all (pureD d)=true):pureD (d+1) (.lptr cs)=true:=h
theorem pu_tup {cs:List AV} {d:Nat} (h:cs.all (pureD d)=true):pureD (d+1) (.tuple cs)=true:=h
theorem pu_fn {k:FuncId} {a b:List AV} {d:Nat} (h1:a.all (pureD d)=true) (h2:b.all (pureD d)=true):pureD (d+1) (.func k a b)=true:=and2 h1 h2
theorem pu_map {α:Type} {f:α→AV} {d:Nat} (h:∀ x,pureD d (f x)=true) (l:List α) (n:Nat) (c:Cap):pureD (d+1) (.lst (l.map f) n c)=true:=by
 show (l.map f).all (pureD d)=true
 rw [List.all_eq_true];intro u hu;obtain ⟨x,_,rfl⟩:=List.mem_map.1 hu;exact h x
theorem pu_flat {α:Type} {f:α→List AV} {d:Nat} (h:∀ x,(f x).all (pureD d)=true) (l:List α) (n:Nat) (c:Cap):pureD (d+1) (.lst (l.flatMap f) n c)=true:=by
 show (l.flatMap f).all (pureD d)=true
 rw [List.all_eq_true];intro u hu
 obtain ⟨x,_,hx⟩:=List.mem_flatMap.1 hu
 exact List.all_eq_true.1 (h x) u hx
theorem pu_run {α:Type} {f:α→AV} {d:Nat} (h:∀ x,pureD d (f x)=true) (l:List α):(l.map f).all (pureD d)=true:=by
 rw [List.all_eq_true];intro u hu;obtain ⟨x,_,rfl⟩:=List.mem_map.1 hu;exact h x
theorem PureOk.dim {P:Program} {k:FuncId} {args:List AV} {v:AV} (h:PureOk P k args v) (hp:pureD 8 v.dim=true):PureOk P k args v.dim :=
 ⟨⟨h.1.1,h.1.2.1,fun B ω κ S w vs hH hn hv=>CallsIn.mono (h.1.2.2 B ω κ S w vs hH hn hv) fun e w' he=>by
   cases e with
   | returned x=>exact Post.dim he
   | panicked c=>exact he.elim
   | outgrown=>exact he.elim⟩,hp⟩
section
variable {P:Program} {B:Nat} {κ:List Nat} {w:World} {ω:Nat→Option Lab} {S:Nat→Nat→Prop}
theorem Post.weak {H':List AObj} {r:AV} {v:Value} {w':World} (h:Post B ω κ S w H' r v w'):Post B ω κ S w H' r.settle.view.dim v w':=by
 have h1:Post B ω κ S w H' r.settle v w':=by
  cases r with
  | lst c n k=>cases k with
    | uniq z=>exact h.settle
    | _=>exact h
  | _=>exact h
 have h2:r.settle.noUniq=true:=by
  cases r with
  | lst c n k=>cases k <;> rfl
  | _=>rfl
 obtain ⟨ω2,κ2,S2,a,b,c,d,e⟩:=h1
 exact Post.dim ⟨ω2,κ2,S2,a,b,c,d.view h2,OwnAt.of_plain (AV.view_plain _)⟩
theorem pure_fnW0 (hmix : P.follows .mixedOrders = true) {k : Nat} {f : Func} {c : Code} (hf : P.funcs[k]? = some f) (hb : f.body = some c) (hn : f.name ≠ "runtime.NumGoroutine") {A : FAnn} (hok : codeOk A c = true)
  {args:List AV} {v:AV} (hp:pureD 8 v=true)
  (h:wpA P A k 0 none c 0 ⟨args++List.replicate (f.ntmps-args.length) .junk,[]⟩ fun e s=>(e=.normal∨e=.ret)∧∃ vs r,readResults P s.H s.T f.results.toList=some vs∧frz s.H 0 s.H.length 0 8 (packResults vs)=some r∧r.settle.view.dim=v):PureOk P k args v:=by
 refine ⟨⟨Low.refl _ _,⟨f,hf,by simp [hb],hn⟩,fun B ω κ S w xs hH _ hv=>?_⟩,hp⟩
 refine callsIn_of_wp_marks hf hb trivial ?_
 have hA:=start_rel hH hv f.ntmps
 have ev0:=(toSlots_rel hH).1
 refine wpA_sim hmix c 0 _ _ h hok Fence.wide _ B w.heap.size κ w (toSlots ω) S _ (.inl ⟨rfl,rfl⟩) (fun l a w hg=>hg.elim) hA fun e s hk a' w' hs=>?_
 obtain ⟨he,vs,r,hr,hfz,hset⟩:=hk
 obtain ⟨ω1,κ1,S1,k1,k2,hA1⟩:=hs
 have hleave:LeavesInM Fence.wide 0 P f a'.tmps (FnPost B ω κ S w [] v) a'.defers .returning w':=by
  refine leaves_marks (ω:=ω1) (S:=S1) (κ:=κ1) (B:=B) (H:=s.H) (ω0:=ω) (S0:=S) (w0:=w) a'.defers w' hA1.M.2.1 hA1.M.2.2 (ev0.trans k2) hA1.H fun w2 j1 j2 j3 j4=>?_
  have hT:VRel .slot ω1 κ1 S1 w2 s.T a'.tmps.toList:=⟨hA1.T.len,fun i u v hu hv=>(hA1.T.rel i u v hu hv).mono (Ext.refl _) (fun b o h=>⟨h,j2 b o h⟩),fun i u v hu hv =>
   (hA1.T.own i u v hu hv).mono (Ext.refl _) (fun b o h=>⟨h,j2 b o h⟩) fun b hb=>⟨hb,j1 b _ hb,fun _ h=>h⟩⟩
  obtain ⟨x,q1,q2⟩:=results_sim j4 hT hr
  have hpost:=post_frz hH (fun id hid=>by simp at hid) hfz (Post.after k1 j3 q2)
  refine ⟨x,q1,?_⟩
  rw [←hset];exact hpost.weak
 rcases he with rfl | rfl
 ·exact hleave
 ·exact hleave
end
inductive RetW (rs:List RV) (v:AV) (e:Ex) (T:List AV) (H:List AObj):Prop where
 | mk (he:e=.normal∨e=.ret) (vs:List AV) (hr:readR H T rs=some vs) (r:AV) (hf:frz H 0 H.length 0 8 (packResults vs)=some r) (hv:r.settle.view.dim=v)
theorem fn_pureW {P:Program} (hmix:P.follows .mixedOrders=true) {k:Nat} {A:FAnn} {rc:RC} {n:Nat} {ts:List RV} (hl:linkF P A k=some (rc,n,ts)) {args T:List AV} (hT:args++List.replicate (n-args.length) .junk=T) {v:AV} (hp:pureD 8 v=true)
  (h:∀ Q:Ex→List AV→List AObj→Prop,(∀ e T H,RetW ts v e T H→Q e T H)→wpR P A k 0 none rc T [] Q):PureOk P k args v:=by
 have h:=h _ fun _ _ _ h=>h
 unfold linkF at hl
 split at hl
 ·rename_i f hf
  split at hl
  ·rename_i c hb
   split at hl
   ·rename_i rc' ts' h1 h2 h3 h4
    simp only [Option.some.injEq,Prod.mk.injEq] at hl
    obtain ⟨rfl,rfl,rfl⟩:=hl
    subst hT
    have hq:∀ e s,RetW ts' v e (St.T s) (St.H s)→(e=.normal∨e=.ret)∧∃ vs r,readResults P s.H s.T f.results.toList=some vs∧frz s.H 0 s.H.length 0 8 (packResults vs)=some r∧r.settle.view.dim=v:=fun e s ⟨g1,vs,g0,r,g2,g3⟩=>by
     exact ⟨g1,vs,r,by rw [readR_eq _ _ h4,g0],g2,g3⟩
    exact pure_fnW0 hmix hf hb (by simpa using h2) h1 hp (wpA_mono hq (link_ok h3 h))
   ·cases hl
  ·cases hl
 ·cases hl
theorem wp_loop {P:Program} {A:FAnn} {fn:FuncId} {lo:Nat} {rl:Option Nat} {keep:List Bool} {c:RC} {T T0:List AV} {H:List AObj} {Q:Ex→List AV→List AObj→Prop} (hT:zipKeep keep T=T0)
  (h:LoopI (fun T H Q=>nfK T fun T=>wpR P A fn lo rl c T H fun e T' H'=>match e with
   | .normal=>keepO (some keep) T' fun T'=>Q .normal T' H'
   | e=>Q e T' H') T0 H Q):wpR P A fn lo rl (.loop (some keep) c) T H Q:=by
 show keepO (some keep) T _
 rw [keepO_eq]
 subst hT;exact h
def optP {α:Type} (f:α→List AV):Option α→AV
 | none=>.nilp
 | some x=>.lptr (f x)
theorem pu_opt {α:Type} {f:α→List AV} {d:Nat} (h:∀ x,(f x).all (pureD d)=true) (x:Option α):pureD (d+1) (optP f x)=true:=by
 cases x with
 | none=>rfl
 | some x=>exact h x
abbrev U8 (n:Int):AV:=.int .u8 n
theorem mapO_nil' {f:AV→Option AV}:mapO f []=some []:=rfl
theorem mapO_cons' {f:AV→Option AV} {x y:AV} {l r:List AV} (h:f x=some y) (k:mapO f l=some r):mapO f (x::l)=some (y::r):=by simp only [mapO,h,k,Option.map_some]
theorem call6' {P:Program} {k:FuncId} {xs cs bs:List AV} {H:List AObj} {lo:Nat} {v:AV} (hs:xs.map (shz H)=cs) (hb:cs.map AV.dim=bs) (hp:cs.all (pureD 8)=true) (h:PureOk P k bs v) (hv:scal v=true):CallS P 6 lo (.fn k) xs H v.dim H :=
 call6 (by rw [hs,hb]) (by rw [hs];exact hp) h hv
theorem map_cons' {f:AV→AV} {x y:AV} {l r:List AV} (h:f x=y) (k:l.map f=r):(x::l).map f=y::r:=by rw [List.map_cons,h,k]
theorem map_nil' {f:AV→AV}:([]:List AV).map f=[]:=rfl
theorem shz_func {H:List AObj} {k:FuncId} {a b a' b':List AV} (h1:a.map (shz0 H)=a') (h2:b.map (shz0 H)=b'):shz H (.func k a b)=.func k a' b':=by simp only [shz,h1,h2]
theorem shz0_ptr' {H:List AObj} {id off:Nat} {cs ds:List AV} (hH:H[id]?=some (.cells cs)) (he:((cs.drop off).map AV.view).map (shzR H)=ds):shz0 H (.ptr id off)=.lptr ds:=by simp only [shz0,hH,he]
def foldO {α σ:Type} (g:σ→α→Option σ):List α→σ→Option σ
 | [],s=>some s
 | x::l,s=>(g s x).bind fun t=>foldO g l t
theorem foldO_states {α σ:Type} {g:σ→α→Option σ}:∀ {l:List α} {s t:σ},foldO g l s=some t→∃ F:Nat→σ,F 0=s∧F l.length=t∧∀ (i:Nat) (h:i<l.length),g (F i) l[i]=some (F (i+1))
 | [],s,t,h=>⟨fun _=>s,rfl,Option.some.inj h,fun i hi=>absurd hi (by simp)⟩
 | x::l,s,t,h=>by
   obtain ⟨u,h1,h2⟩:=bd_some h
   obtain ⟨F,f1,f2,f3⟩:=foldO_states h2
   refine ⟨fun i=>match i with | 0=>s | i+1=>F i,rfl,f2,fun i hi=>?_⟩
   cases i with
   | zero=>show g s x=some (F 0);rw [f1,h1]
   | succ i=>exact f3 i (by simpa using hi)
def Seq (P:Program) (k:FuncId) (cap:List AV) (E:List AV):Prop :=
 ∀ (l N:Nat) (Pre:Nat→List AObj),(∀ i,(Pre i).length=N)→l<N →
   (∀ (i:Nat) (h:i<E.length) (Y:List AObj),∃ Y',Sem P (.yield l) [E[i]] (Pre i++Y) 0 (.bool true) (Pre (i+1)++Y')) →
   ∀ Y,∃ Y',Sem P (.fn k) (.yield l::cap) (Pre 0++Y) 0 (.tuple []) (Pre E.length++Y')
theorem low0 {H X:List AObj} (h:H.length≤X.length):Low 0 H X:=⟨h,fun _ h _=>absurd h (by omega)⟩
theorem set_mid (X Y:List AObj) (c d:AObj):((X++[c])++Y).set X.length d=(X++[d])++Y:=by
 rw [List.append_assoc,List.set_append_right _ _ (Nat.le_refl _)];simp
theorem get_mid (X Y:List AObj) (c:AObj):((X++[c])++Y)[X.length]?=some c:=by
 rw [List.append_assoc,List.getElem?_append_right (Nat.le_refl _)];simp
theorem rng_ok {α:Type} {P:Program} {A:FAnn} {fn:FuncId} {rl:Option Nat} {k:FuncId} {cap:List AV} {ps:List Nat} {as' bd:Code} {T:List AV} {H Hn:List AObj} {Q:Ex→List AV→List AObj→Prop} {f:α→AV} {L:List α} (hseq:Seq P k cap (L.map f))
  (Obj:Nat→List AObj) (h0:Obj 0=H) (hlen:∀ i,(Obj i).length=H.length)
  (hround:∀ (i:Nat) (h:i<L.length) (Y:List AObj),∃ Y',Sem P (.yield H.length) [f L[i]] ((Obj i++[.loop .ready none fn (T.map AV.view) ps as' bd A])++Y) 0 (.bool true) ((Obj (i+1)++[.loop .ready none fn (T.map AV.view) ps as' bd A])++Y'))
  (hin:inLoop H rl=true) (hn:Obj L.length=Hn) (hQ:∀ Y',Q .normal (T.map AV.settle) ((Hn++[.dead])++Y')):rngK P A fn 0 rl (.func k [] cap) ps as' bd T H Q:=by
 obtain ⟨Y',hS⟩:=hseq H.length (H.length+1) (fun i=>Obj i++[.loop .ready none fn (T.map AV.view) ps as' bd A]) (fun i=>by simp [hlen]) (by omega) (fun i h Y=>by
  have h':i<L.length:=by simpa using h
  obtain ⟨Y',hr⟩:=hround i h' Y
  exact ⟨Y',by rw [List.getElem_map];exact hr⟩) []
 subst hn
 simp only [List.append_nil,List.length_map,h0] at hS
 have hl:(Obj L.length).length=H.length:=hlen _
 refine ⟨hin,.tuple [],_,.ready,none,fn,T.map AV.view,ps,as',bd,A,hS,by rw [←hl];exact get_mid _ _ _,by decide,?_⟩
 show Q .normal (T.map AV.settle) (((Obj L.length++[AObj.loop .ready none fn (T.map AV.view) ps as' bd A])++Y').set H.length .dead)
 rw [←hl,set_mid];exact hQ Y'
end Go.Proofs.YtfakoboiahbhaaaGreat.Ab


namespace Go.Proofs.YtfakoboiahbhaaaGreat.Ab
open Go
theorem frz_fn {H:List AObj} {lo i n d:Nat} {k:FuncId} {a b a' b':List AV} (h1:mapO (frz H lo i n d) a=some a') (h2:mapO (frz H lo i n d) b=some b'):frz H lo i n (d+1) (.func k a b)=some (.func k a' b'):=by simp only [frz,h1,h2]
theorem rng_wp {α:Type} {P:Program} {A:FAnn} {fn:FuncId} {rl:Option Nat} {k:FuncId} {cap:List AV} {t:Nat} {ps:List Nat} {as' bd:Code} {T:List AV} {H Hn:List AObj} {Q:Ex→List AV→List AObj→Prop} {f:α→AV} {L:List α} (hseq:Seq P k cap (L.map f))
  (Obj:Nat→List AObj) (ht:getT T t=.func k [] cap) (h0:Obj 0=H) (hlen:∀ i,(Obj i).length=H.length)
  (hround:∀ (i:Nat) (h:i<L.length) (Y:List AObj),∃ Y',Sem P (.yield H.length) [f L[i]] ((Obj i++[.loop .ready none fn (T.map AV.view) ps as' bd A])++Y) 0 (.bool true) ((Obj (i+1)++[.loop .ready none fn (T.map AV.view) ps as' bd A])++Y'))
  (hin:inLoop H rl=true) (hn:Obj L.length=Hn) (hQ:∀ Y',Q .normal (T.map AV.settle) ((Hn++[.dead])++Y')):wpR P A fn 0 rl (.rng (.sl t) ps as' bd) T H Q:=by
 show getK T t _
 rw [getK_eq,ht]
 exact rng_ok hseq Obj h0 hlen hround hin hn hQ
end Go.Proofs.YtfakoboiahbhaaaGreat.Ab


namespace Go.Proofs.YtfakoboiahbhaaaGreat.Ab
open Go
end Go.Proofs.YtfakoboiahbhaaaGreat.Ab


namespace Go.Proofs.YtfakoboiahbhaaaGreat.Ab
open Go
theorem w_id {n:Int} (h:-9223372036854775808≤n∧n≤9223372036854775807):w n=n:=w_eq h.1 h.2
theorem w_succ (i:Nat) (h:i≤9223372036854775806):w ((i:Int)+1)=((i+1:Nat):Int):=wrapS i h
theorem iflt {i n:Nat} {ρ:Type} {x y:Option ρ} (h:i<n):(if (decide ((i:Int)<(n:Int)))=true then x else y)=x:=by rw [if_pos (decide_eq_true (by omega))]
theorem ifge {i n:Nat} {ρ:Type} {x y:Option ρ} (h:¬ i<n):(if (decide ((i:Int)<(n:Int)))=true then x else y)=y:=by rw [if_neg (by rw [decide_eq_true_eq];omega)]
theorem gdi {i n:Nat} {ρ:Type} {x:Option ρ} (h:i<n):gd (0≤(i:Int)∧(i:Int)<(n:Int)) x=x:=gd_pos ⟨by omega,by omega⟩
end Go.Proofs.YtfakoboiahbhaaaGreat.Ab


namespace Go.Proofs.YtfakoboiahbhaaaGreat.Ab
open Go
def pr (p:Int×Int):List AV:=[I p.1,I p.2]
theorem pr_len (p:Int×Int):(pr p).length=2:=rfl
theorem flat_take {α:Type} (f:α→List AV) (s:Nat) (hs:∀ x,(f x).length=s):∀ (l:List α) (k:Nat),k≤l.length→(l.flatMap f).take (k*s)=(l.take k).flatMap f
 | l,0,_=>by rw [Nat.zero_mul,List.take_zero,List.take_zero];rfl
 | [],k+1,h=>absurd h (by simp)
 | x::l,k+1,h=>by
   have e:(k+1)*s=(f x).length+k*s:=by rw [hs,Nat.add_mul,Nat.one_mul,Nat.add_comm]
   rw [List.flatMap_cons,e,List.take_length_add_append,flat_take f s hs l k (by simpa using h),List.take_succ_cons,List.flatMap_cons]
theorem slHiS {α:Type} (f:α→List AV) (s:Nat) (hs:∀ x,(f x).length=s) (l:List α) (n:Int) (h:0≤n∧n≤(l.length:Int)) (c:Cap):AV.lst ((l.flatMap f).take (n.toNat*s)) n.toNat c=.lst ((l.take n.toNat).flatMap f) (l.take n.toNat).length c:=by
 rw [flat_take f s hs l _ (by omega),List.length_take,Nat.min_eq_left (by omega)]
theorem slLoO {α:Type} (f:α→AV) (l:List α) (n:Int) (h:0≤n∧n≤(l.length:Int)) (c:Cap):AV.lst ((l.map f).drop (n.toNat*1)) (l.length-n.toNat) c=.lst ((l.drop n.toNat).map f) (l.drop n.toNat).length c:=by
 rw [Nat.mul_one,List.length_drop,←List.map_drop]
end Go.Proofs.YtfakoboiahbhaaaGreat.Ab


namespace Go.Proofs.YtfakoboiahbhaaaGreat.Ab
open Go
section
variable {P:Program} {B N:Nat} {κ:List Nat} {w:World} {H:List AObj} {ω:Nat→Option Lab} {S:Nat→Nat→Prop}
theorem wpA_roundX (hmix:P.follows .mixedOrders=true) {l lo:Nat} {fn:FuncId} {T T':List AV} {ps:List Nat} {as' bd:Code} {an:FAnn} {args:List AV} {H':List AObj} {id:Nat}
  (hl:H[l]?=some (.loop .ready none fn T ps as' bd an)) (hset:setParams ps args T=some T') (hlow:Low lo H H')
  (h:wpA P an fn lo (some l) as' 0 ⟨T',H⟩ fun e s1=>e=.normal∧s1.H[l]?=some (.loop .ready none fn T ps as' bd an) ∧
   wpA P an fn lo (some l) bd 0 ⟨s1.T,s1.H.set l (.loop .busy none fn T ps as' bd an)⟩ fun e s2=>e=.exit id∧s2.H[l]?=some (.loop .busy none fn T ps as' bd an)∧Fgt (s2.H.set l (.loop .done (some (.exit id)) fn T ps as' bd an)) H') :
  Sem P (.yield l) args H lo (.bool false) H':=by
 refine ⟨hlow,fun B ω κ S w xs b hH _ hv hb=>?_⟩
 obtain ⟨c1,c2,b',L,a1,a2,a3,a4,a5,a6,a7,a8,a9,a10,a11⟩:=hH.obj l _ hl
 rw [hb] at a1;cases a1
 have hst:=setParams_get ps args T T' xs L.tmps.toList hset hv.len (by simpa using a7.symm)
 obtain ⟨g1,g2,g3,g4⟩:=hst
 refine ⟨L,a3,by rw [←hv.len,←g1,←a9];simp,?_⟩
 refine roundIn_of_wpIn trivial ?_
 have htm:(roundTmps L xs).toList=(ps.zip xs).foldl (fun (l:List Value) (p:Nat×Value)=>l.set p.1 p.2) L.tmps.toList:=by rw [roundTmps_toList,a9]
 obtain ⟨ev0,hH0⟩:=toPars_rel ps hH
 have hA:ARel B w.heap.size (toPars ps ω) κ S w ⟨T',H⟩ { tmps:=roundTmps L xs,defers:=[] }:=by
  refine ⟨?_,hH0,Nat.le_refl _,fun d hd=>by simp at hd,List.Pairwise.nil⟩
  simp only [htm]
  have key:∀ (i:Nat) (u:AV) (x:Value),T'[i]?=some u→((ps.zip xs).foldl (fun (l:List Value) (p:Nat×Value)=>l.set p.1 p.2) L.tmps.toList)[i]?=some x →
    Rel κ S w u x∧OwnAt (toPars ps ω) κ S w (.slot i) u x:=fun i u x hu hx=>by
   rcases g4 i u x hu hx with ⟨k1,k2⟩ | ⟨j,k1,k2,k3⟩
   ·obtain ⟨p1,p2⟩:=a8 i u x k1 (by simpa using k2)
    exact ⟨p2,OwnAt.of_plain p1⟩
   ·exact ⟨hv.rel j u x k2 k3,(hv.own j u x k2 k3).mono (Ext.refl κ) (fun _ _ h=>⟨h,rfl⟩) fun b hb=>⟨by simp [toPars,hb,k1],rfl,fun _ h=>h⟩⟩
  exact ⟨by rw [g2,g3,←a7];simp,fun i u x hu hx=>(key i u x hu hx).1,fun i u x hu hx=>(key i u x hu hx).2⟩
 rw [a10,a11]
 refine wpA_sim hmix as' 0 _ _ h c1 _ _ B w.heap.size κ w (toPars ps ω) S _ (.inr ⟨l,b,rfl,hb,rfl⟩) (fun l a w hg=>hg) hA fun e1 s1 hk a1 w1 hs=>?_
 obtain ⟨rfl,hl1,h2⟩:=hk
 obtain ⟨ω1,κ1,S1,k1,k2,hA1⟩:=hs
 have hb1:κ1[l]?=some b:=k1 _ _ hb
 obtain ⟨_,_,b',L1,d1,d2,d3,d4,d5,_⟩:=hA1.H.obj l _ hl1
 rw [hb1] at d1;cases d1
 obtain ⟨ev2,hA2⟩:=hA1.loop hl1 hb1 d3 .busy none
 have hbr:(Instr.beginRound b).run P w1=.ok () (w1.putObj b (.loop { L1 with state:=.busy,pending:=none })):=by
  rw [run_beginRound d3 d4]
  have:({ L1 with state:=.busy,pending:=none }:Loop)={ L1 with state:=.busy }:=by rw [←d5]
  rw [this]
 refine ⟨_,hbr,?_⟩
 refine wpIn_mono (Q:=fun e' a' w'=>(∀ t,e'≠Exit.goto t)∧roundPost P b (FnPost B ω κ S w H' (.bool false)) e' a' w') ?_ (fun e a w h=>h.2)
 refine wpA_sim hmix bd 0 _ _ h2 c2 _ _ B w.heap.size κ1 _ ω1 S1 _ (.inr ⟨l,b,rfl,hb1,rfl⟩) (fun l a w hg=>hg.1 l rfl) hA2 fun e2 s2 hk a2 w2 hs=>?_
 obtain ⟨rfl,hl2,hfg⟩:=hk
 obtain ⟨ω2,κ2,S2,k3,k4,hA3⟩:=hs
 have hb2:κ2[l]?=some b:=k3 _ _ hb1
 obtain ⟨_,_,b',L2,f1,f2,f3,f4,f5,_⟩:=hA3.H.obj l _ hl2
 rw [hb2] at f1;cases f1
 have evA:Ev ω S w ω2 S2 w2:=((ev0.trans k2).trans ev2).trans k4
 refine ⟨fun t ht=>(by cases ht),?_⟩
 refine ⟨_,_,run_endRound (some (.exit id)) f3,?_⟩
 obtain ⟨ev5,hA5⟩:=hA3.loop hl2 hb2 f3 .done (some (.exit id))
 exact Post.fgt hfg ⟨ω2,κ2,S2,k1.trans k3,evA.trans ev5,hA5.H,.bool _,OwnAt.of_plain rfl⟩
theorem sem_roundX (hmix:P.follows .mixedOrders=true) {l lo:Nat} {fn:FuncId} {T T':List AV} {ps:List Nat} {as' bd:Code} {an:FAnn} {args:List AV} {H':List AObj} {id:Nat} {ra rb:RC}
  (ha:linkC P an as' 0=some ra) (hb:linkC P an bd 0=some rb)
  (hl:H[l]?=some (.loop .ready none fn T ps as' bd an)) (hset:setParams ps args T=some T') (hlow:Low lo H H')
  (h:wpR P an fn lo (some l) ra T' H fun e T1 H1=>e=.normal∧H1[l]?=some (.loop .ready none fn T ps as' bd an) ∧
   wpR P an fn lo (some l) rb T1 (H1.set l (.loop .busy none fn T ps as' bd an)) fun e T2 H2=>e=.exit id∧H2[l]?=some (.loop .busy none fn T ps as' bd an)∧Fgt (H2.set l (.loop .done (some (.exit id)) fn T ps as' bd an)) H') :
  Sem P (.yield l) args H lo (.bool false) H' :=
 wpA_roundX hmix hl hset hlow (wpA_mono (fun e s hq=>⟨hq.1,hq.2.1,link_ok hb hq.2.2⟩) (link_ok ha h))
end
def SeqS (P:Program) (k:FuncId) (cap:List AV) (E:List AV):Prop :=
 ∀ (l N:Nat) (Pre:Nat→List AObj) (Post:List AObj) (n:Nat),(∀ i,(Pre i).length=N)→l<N→Post.length=N→(hn:n<E.length) →
   (∀ (i:Nat) (h:i<n) (Y:List AObj),∃ Y',Sem P (.yield l) [E[i]'(Nat.lt_trans h hn)] (Pre i++Y) 0 (.bool true) (Pre (i+1)++Y')) →
   (∀ Y:List AObj,∃ Y',Sem P (.yield l) [E[n]] (Pre n++Y) 0 (.bool false) (Post++Y')) →
   ∀ Y,∃ Y',Sem P (.fn k) (.yield l::cap) (Pre 0++Y) 0 (.tuple []) (Post++Y')
theorem rngS_ok {α:Type} {P:Program} {A:FAnn} {fn:FuncId} {rl:Option Nat} {k:FuncId} {cap:List AV} {ps:List Nat} {as' bd:Code} {T:List AV} {H Hn:List AObj} {Q:Ex→List AV→List AObj→Prop} {f:α→AV} {L:List α} {id n:Nat} (hseq:SeqS P k cap (L.map f)) (hn:n<L.length)
  (Obj:Nat→List AObj) (h0:Obj 0=H) (hlen:∀ i,(Obj i).length=H.length) (hlenn:Hn.length=H.length)
  (hround:∀ (i:Nat) (h:i<n) (Y:List AObj),∃ Y',Sem P (.yield H.length) [f (L[i]'(Nat.lt_trans h hn))] ((Obj i++[.loop .ready none fn (T.map AV.view) ps as' bd A])++Y) 0 (.bool true) ((Obj (i+1)++[.loop .ready none fn (T.map AV.view) ps as' bd A])++Y'))
  (hlast:∀ (Y:List AObj),∃ Y',Sem P (.yield H.length) [f L[n]] ((Obj n++[.loop .ready none fn (T.map AV.view) ps as' bd A])++Y) 0 (.bool false) ((Hn++[.loop .done (some (.exit id)) fn (T.map AV.view) ps as' bd A])++Y'))
  (hin:inLoop H rl=true) (hQ:∀ Y',Q (.exit id) (T.map AV.settle) ((Hn++[.dead])++Y')):rngK P A fn 0 rl (.func k [] cap) ps as' bd T H Q:=by
 obtain ⟨Y',hS⟩:=hseq H.length (H.length+1) (fun i=>Obj i++[.loop .ready none fn (T.map AV.view) ps as' bd A]) (Hn++[.loop .done (some (.exit id)) fn (T.map AV.view) ps as' bd A]) n (fun i=>by simp [hlen]) (by omega) (by simp [hlenn]) (by simpa using hn) (fun i h Y=>by
  obtain ⟨Y',hr⟩:=hround i h Y
  exact ⟨Y',by rw [List.getElem_map];exact hr⟩) (fun Y=>by
  obtain ⟨Y',hr⟩:=hlast Y
  exact ⟨Y',by rw [List.getElem_map];exact hr⟩) []
 simp only [List.append_nil,h0] at hS
 refine ⟨hin,.tuple [],_,.done,some (.exit id),fn,T.map AV.view,ps,as',bd,A,hS,by rw [←hlenn];exact get_mid _ _ _,by decide,?_⟩
 show Q (.exit id) (T.map AV.settle) (((Hn++[AObj.loop .done (some (.exit id)) fn (T.map AV.view) ps as' bd A])++Y').set H.length .dead)
 rw [←hlenn,set_mid];exact hQ Y'
theorem rngS_wp {α:Type} {P:Program} {A:FAnn} {fn:FuncId} {rl:Option Nat} {k:FuncId} {cap:List AV} {t:Nat} {ps:List Nat} {as' bd:Code} {T:List AV} {H Hn:List AObj} {Q:Ex→List AV→List AObj→Prop} {f:α→AV} {L:List α} {id n:Nat} (hseq:SeqS P k cap (L.map f)) (hn:n<L.length)
  (Obj:Nat→List AObj) (ht:getT T t=.func k [] cap) (h0:Obj 0=H) (hlen:∀ i,(Obj i).length=H.length) (hlenn:Hn.length=H.length)
  (hround:∀ (i:Nat) (h:i<n) (Y:List AObj),∃ Y',Sem P (.yield H.length) [f (L[i]'(Nat.lt_trans h hn))] ((Obj i++[.loop .ready none fn (T.map AV.view) ps as' bd A])++Y) 0 (.bool true) ((Obj (i+1)++[.loop .ready none fn (T.map AV.view) ps as' bd A])++Y'))
  (hlast:∀ (Y:List AObj),∃ Y',Sem P (.yield H.length) [f L[n]] ((Obj n++[.loop .ready none fn (T.map AV.view) ps as' bd A])++Y) 0 (.bool false) ((Hn++[.loop .done (some (.exit id)) fn (T.map AV.view) ps as' bd A])++Y'))
  (hin:inLoop H rl=true) (hQ:∀ Y',Q (.exit id) (T.map AV.settle) ((Hn++[.dead])++Y')):wpR P A fn 0 rl (.rng (.sl t) ps as' bd) T H Q:=by
 show getK T t _
 rw [getK_eq,ht]
 exact rngS_ok hseq hn Obj h0 hlen hlenn hround hlast hin hQ
def foldX {σ α:Type} (f:σ→α→Option (σ×Bool)):List α→σ→Option (σ×Bool)
 | [],s=>some (s,false)
 | a::r,s=>(f s a).bind fun q=>if q.2=true then some q else foldX f r q.1
theorem foldX_states {σ α:Type} {f:σ→α→Option (σ×Bool)}:∀ {L:List α} {s:σ} {v:σ×Bool},foldX f L s=some v →
  (v.2=false∧∃ F:Nat→σ,F 0=s∧F L.length=v.1∧∀ (i:Nat) (h:i<L.length),f (F i) L[i]=some (F (i+1),false)) ∨
  (v.2=true∧∃ (n:Nat) (hn:n<L.length) (F:Nat→σ),F 0=s∧(∀ (i:Nat) (h:i<n),f (F i) (L[i]'(Nat.lt_trans h hn))=some (F (i+1),false))∧f (F n) L[n]=some (v.1,true))
 | [],s,v,h=>by
   simp only [foldX,Option.some.injEq] at h;subst h
   exact .inl ⟨rfl,fun _=>s,rfl,rfl,fun i h=>absurd h (by simp)⟩
 | a::r,s,v,h=>by
   simp only [foldX,Option.bind_eq_some_iff] at h
   obtain ⟨q,hq,h⟩:=h
   cases hb:q.2 with
   | true =>
     rw [hb,if_pos rfl,Option.some.injEq] at h;subst h
     refine .inr ⟨hb,0,by simp,fun _=>s,rfl,fun i h=>absurd h (by omega),?_⟩
     rw [List.getElem_cons_zero,hq,←hb]
   | false =>
     rw [hb,if_neg (by decide)] at h
     have hq':f s a=some (q.1,false):=by rw [hq,←hb]
     rcases foldX_states h with ⟨h1,F,h2,h3,h4⟩ | ⟨h1,n,hn,F,h2,h3,h4⟩
     ·refine .inl ⟨h1,fun i=>if i=0 then s else F (i-1),rfl,by simpa using h3,fun i hi=>?_⟩
      cases i with
      | zero=>simpa [h2] using hq'
      | succ i=>simpa using h4 i (by simpa using hi)
     ·refine .inr ⟨h1,n+1,by simpa using hn,fun i=>if i=0 then s else F (i-1),rfl,fun i hi=>?_,by simpa using h4⟩
      cases i with
      | zero=>simpa [h2] using hq'
      | succ i=>simpa using h3 i (by omega)
theorem set_midY (X Y:List AObj) (a b d:AObj):(((X++[a])++Y)++[b]).set X.length d=(((X++[d])++Y)++[b]):=by
 rw [List.set_append_left _ _ (by simp),set_mid]
theorem get_midY (X Y:List AObj) (a b:AObj):(((X++[a])++Y)++[b])[X.length]?=some a:=by
 rw [List.getElem?_append_left (by simp),get_mid]
theorem fgt_last (X:List AObj) (b:AObj):Fgt (X++[b]) (X++[.dead]):=by
 refine ⟨by simp,fun id o h=>?_⟩
 rcases Nat.lt_or_ge id X.length with hl | hl
 ·rw [List.getElem?_append_left hl] at h ⊢;exact .inr h
 ·rw [List.getElem?_append_right hl] at h
  cases hk:id-X.length with
  | zero=>rw [hk] at h;simp at h;exact .inl h.symm
  | succ k=>rw [hk] at h;simp at h
theorem fgt_midY (X Y:List AObj) (a b:AObj):Fgt (((X++[a])++Y)++[b]) ((X++[a])++(Y++[.dead])):=by
 rw [←List.append_assoc];exact fgt_last _ b
end Go.Proofs.YtfakoboiahbhaaaGreat.Ab


namespace Go.Proofs.YtfakoboiahbhaaaGreat.Ab
open Go
theorem view_all {α:Type} {f:α→AV} (h:∀ x,(f x).view=f x) (l:List α):(l.map f).map AV.view=l.map f:=by rw [List.map_map];exact List.map_congr_left fun x _=>h x
theorem ldArrE {α:Type} (f:α→AV) (l:List α) {n:Nat} (hf:∀ x,(f x).view=f x) (h:l.length=n):(((l.map f).drop 0).take n).map AV.view=l.map f:=by
 rw [List.drop_zero,List.take_of_length_le (by simp [h]),view_all hf]
theorem opAll_slA {P:Program} {C:CallFn} {lo:Nat} {o:Oper} {t e:TypeId} {a:Operand} {id len:Nat} {H:List AObj} (ho:o.op=.slice t a none none none) (h1:P.underlying t=some (.array len e)) (h2:szOf P e=some 1) (h0:0<len):opAll P C lo o 0 [.ptr id 0] H=some (.ref id 0 len (some len) 1,H):=by
 unfold opAll;rw [ho]
 show (op0 P o [.ptr id 0]).map _=_
 unfold op0;rw [ho]
 show (opSlice P t none none none [.ptr id 0]).map _=_
 unfold opSlice
 simp only [AV.view,aSlice,h1,h2,optAt,aBound,Option.bind_some]
 rw [if_neg (by omega)];rfl
theorem opAll_clear {P:Program} {C:CallFn} {lo mode:Nat} {o:Oper} {xs:Array Operand} {ts:Array TypeId} {vs:List AV} {H:List AObj} (ho:o.op=.call { callee:=.builtin .clear,args:=xs,argTypes:=ts }):opAll P C lo o mode vs H=opClear P lo ts H vs:=by
 unfold opAll;rw [ho];rfl
theorem repl_one (z:AV):∀ n:Nat,repl n [z]=List.replicate n z
 | 0=>rfl
 | n+1=>by rw [repl,repl_one z n];rfl
theorem clear_all {P:Program} {lo id n:Nat} {H:List AObj} {l:List Int} {cap:Option Nat} {e:TypeId} {ts:Array TypeId} (e1:(ts[0]?).bind P.underlying=some (.slice e)) (e2:szOf P e=some 1) (e3:zeroCells P e=some [.int .i64 0]) (hlo:lo≤id)
  (hH:H[id]?=some (.cells (l.map I))) (hn:l.length=n):opClear P lo ts H [.ref id 0 n cap 1]=some (.tuple [],H.set id (.cells ((List.replicate n (0:Int)).map I))):=by
 have e4:setCells 0 (repl n [AV.int .i64 0]) (l.map I)=(List.replicate n (0:Int)).map I:=by
  apply List.ext_getElem?
  intro j
  rw [setCells_get _ _ _ _ (by rw [repl_len];simp;omega),repl_len,repl_one]
  simp only [List.length_singleton,Nat.mul_one,Nat.zero_add,Nat.sub_zero]
  by_cases hj:j<n
  ·rw [if_pos ⟨by omega,hj⟩];simp [hj]
  ·rw [if_neg (by omega),List.getElem?_eq_none (by simp;omega),List.getElem?_eq_none (by simp;omega)]
 unfold opClear
 simp only [e1,e2,e3,mutObjG,hH,Option.map_some,if_pos hlo]
 rw [if_pos ⟨trivial,rfl,by decide⟩,if_pos (by simp;omega),e4]
 rfl
theorem updsArr {α:Type} (f:α→AV) (l m:List α) (hf:∀ x,(f x).settle=f x) (h:m.length=l.length) {K:List AV→Prop} (k:K (m.map f)):updsK (l.map f) 0 ((m.map f).map AV.settle) K:=by
 have hs:(m.map f).map AV.settle=m.map f:=by rw [List.map_map];exact List.map_congr_left fun x _=>hf x
 rw [hs]
 refine updsK_of (by simp [h]) ?_
 have e4:setCells 0 (m.map f) (l.map f)=m.map f:=by
  apply List.ext_getElem?
  intro j
  rw [setCells_get _ _ _ _ (by simp;omega)]
  by_cases hj:j<m.length
  ·rw [if_pos ⟨by omega,by simpa using hj⟩,Nat.sub_zero]
  ·rw [if_neg (by simp;omega),List.getElem?_eq_none (by simp;omega),List.getElem?_eq_none (by simp;omega)]
 rw [e4];exact k
theorem stArr {α:Type} (f:α→AV) (m:List α) {n id lo:Nat} {H:List AObj} {l:List α} (hlo:lo≤id) (hf:∀ x,(f x).settle=f x) (hH:H[id]?=some (.cells (l.map f))) (h:m.length=n) (h2:l.length=n) (h0:0<n) {K:AV→List AObj→Prop} (k:K .junk (H.set id (.cells (m.map f)))):rkSt lo n (.ptr id 0) (.agg (m.map f)) H K:=by
 show (match Nat.ble lo id with | true=>_ | false=>_)
 rw [show Nat.ble lo id=true from Nat.ble_eq_true_of_le hlo]
 refine nthK_of hH ?_
 show (match Nat.beq (m.map f).length n,Nat.blt 0 n with | true,true=>_ | _,_=>_)
 rw [show Nat.beq (m.map f).length n=true from by rw [List.length_map,h];exact Nat.beq_refl n,show Nat.blt 0 n=true from by rw [Nat.blt_eq];exact h0]
 exact updsArr f l m hf (by omega) k
theorem readArr {H:List AObj} {T:List AV} {a id n:Nat} {l:List Int} (hT:getT T a=.ptr id 0) (hH:H[id]?=some (.cells (l.map I))) (h:l.length=n):readR H T [.cell a (.arr n)]=some [.agg (l.map I)]:=by
 have e:ldA (.arr n) (l.map I) 0=some (.agg (l.map I)):=by
  show (if 0+n≤(l.map I).length then _ else _)=_
  rw [if_pos (by simp [h]),List.drop_zero,List.take_of_length_le (by simp [h]),view_all (fun _=>rfl)]
 simp only [readR,atA,hT,hH,e]
end Go.Proofs.YtfakoboiahbhaaaGreat.Ab


namespace Go.Proofs.YtfakoboiahbhaaaGreat.Ab
open Go
set_option maxRecDepth 20000
set_option maxHeartbeats 4000000
noncomputable def xrc68:RC :=
 .seq (.reg false [I_ 3 [.tk 1] .box,I_ 4 [.cv (.int .i64 0)] .mv,I_ 5 [.cv (.int .i64 0)] .mv]) (.seq (.reg true [I_ 7 [.tk 0] .mv,I_ 8 [.tv 7] .nilc,I_ 9 [.tv 8] (.fa 0),I_ 10 [.tv 9] (.fa 1),I_ 11 [.tv 10] (.ld .one),I_
 12 [.sl 3] (.fa 0),I_ 13 [.tv 12] (.ld .one),I_ 14 [.tv 11,.tv 13] (.ia 2),I_ 15 [.tv 14] (.ld (.str 2)),I_ 6 [] (.alloc [.int .i64 0,.int .i64 0]),⟨none,[.sl 6,.tk 15],none,none,.st 2⟩]) (.seq (.seq (.reg false [I_
 16 [.tv 3] (.fa 1),I_ 17 [.tv 16] (.ld .one),I_ 18 [.tv 17,.cv (.int .i64 0)] (.bin .gtr)]) (.cond (.sl 18) (.seq (.reg true [I_ 19 [.sl 6] (.fa 1),I_ 20 [.tv 19] (.ld .one),I_ 21 [.sl 6] (.fa 0),I_ 22 [.tv 21] (.ld
 .one),I_ 4 [.tk 20] .mv,I_ 5 [.tk 22] .mv]) .ret) .skip)) (.seq (.reg true [I_ 23 [.sl 6] (.fa 0),I_ 24 [.tv 23] (.ld .one),I_ 25 [.sl 6] (.fa 1),I_ 26 [.tv 25] (.ld .one),I_ 4 [.tk 24] .mv,I_ 5 [.tk 26] .mv]) .ret)))
theorem lxx68:linkF Tryz.prog ann68 68=some (xrc68,27,[.tmp 4,.tmp 5]):=by kernel_rfl
def x68 (t:(Int×(List (Int×Int)))) (p:(Int×Int)):Option (Int×Int) :=
 gd (0≤p.1∧p.1<(t.2.length:Int)) <|
 if (decide ((0:Int)<p.2))=true then
  some ((ix t.2 p.1).2,(ix t.2 p.1).1)
 else
  some ((ix t.2 p.1).1,(ix t.2 p.1).2)
theorem x68_ok {t:(Int×(List (Int×Int)))} {p:(Int×Int)} {v:(Int×Int)} (h:x68 t p=some v):PO 68 [(.lptr [(I t.1),(.lst (t.2.flatMap pr) t.2.length .shared)]),(.agg [(I p.1),(I p.2)])] (.tuple [(I v.1),(I v.2)]):=by
 refine fn_pureW hmix lxx68 rfl (pu_tup (allc rfl (allc rfl rfl))) fun Q hQ=>?_
 have hR:∀ T H,RetW [.tmp 4,.tmp 5] (.tuple [(I v.1),(I v.2)]) .ret T H→Q .ret T H:=fun T H hh=>hQ _ T H hh
 unfold x68 at h
 unfold xrc68
 skip
 conv=>whnf
 obtain ⟨hb1,h⟩:=gd_some h
 refine ⟨hb1,?_⟩
 rw [dropS pr 2 pr_len t.2 p.1 hb1]
 conv=>whnf
 rcases bt (decide ((0:Int)<p.2)) with hb2 | hb2
 ·rw [hb2]
  conv=>whnf
  replace h:=it_t hb2 h
  obtain rfl:=Option.some.inj h
  exact hR _ _ ⟨.inr rfl,_,rfl,_,frz_pure (pu_tup (allc rfl (allc rfl rfl))),rfl⟩
 ·rw [hb2]
  conv=>whnf
  replace h:=it_f hb2 h
  obtain rfl:=Option.some.inj h
  exact hR _ _ ⟨.inr rfl,_,rfl,_,frz_pure (pu_tup (allc rfl (allc rfl rfl))),rfl⟩
end Go.Proofs.YtfakoboiahbhaaaGreat.Ab


namespace Go.Proofs.YtfakoboiahbhaaaGreat.Ab
open Go
noncomputable def rc113_1:RC :=
 .seq (.reg false [I_ 30 [.tk 7] .mv,I_ 31 [.sl 2] (.ld .one),I_ 32 [.tv 30,.tv 31] (.bin .eql),I_ 33 [.tk 32] .mv,⟨some 34,[.sl 0],some (33,true),none,.mv⟩,⟨some 35,[.tv 6],some (33,true),none,.ld (.str 2)⟩,⟨some
 36,[.tk 34,.tk 35],some (33,true),none,.call 1⟩,⟨some 37,[.tv 36],some (33,true),none,.un .not⟩,I_ 38 [.tv 33,.tv 37,.cv (.bool false)] .pick]) (.cond (.sl 38) .ret .skip)
noncomputable def rc113_2:RC :=
 .seq (.reg false [I_ 25 [.sl 1] (.ld .one),I_ 26 [.sl 6] (.ld (.str 2)),I_ 27 [.cv (.func 68 [] []),.sl 25,.sl 26] (.call 3),I_ 24 [.tk 27] .mv,I_ 28 [.sl 24] (.ext 0),I_ 29 [.tv 24] (.ext 1),I_ 7 [.tk 28] .mv,I_ 8 [.tk
 29] .mv]) rc113_1
noncomputable def rc113_3:RC :=
 .seq (.reg false [I_ 21 [.sl 4] .mv,I_ 22 [.tk 5] .mv,I_ 23 [.tv 21,.tv 22] (.build [.int .i64 0,.int .i64 0] [(0,1),(1,1)]),I_ 6 [] (.alloc [.int .i64 0,.int .i64 0]),⟨none,[.sl 6,.tk 23],none,none,.st 2⟩]) rc113_2
noncomputable def rc113_4:RC :=
 .block 3 (.seq (.reg false [I_ 20 [.sl 18] .mv,I_ 5 [.tk 20] .mv]) rc113_3)
noncomputable def rc113_5:RC :=
 .seq (.reg false [I_ 18 [.cv (.int .i64 0)] .mv]) (.block 2 (.loop (some [i_,i_,i_,o_,i_,o_,o_,o_,o_,o_,o_,o_,o_,o_,i_,i_,o_,o_,i_,o_,o_,o_,o_,o_,o_,o_,o_,o_,o_,o_,o_,o_,o_,o_,o_,o_,o_,o_,o_,o_,o_]) (.seq (.reg false [I_ 19 [.sl 18,.cv (.int .i64 2)] (.bin .lss)]) (.seq (.cond (.sl 19) .skip
 (.exit 2)) (.seq rc113_4 (.reg false [I_ 39 [.tv 18,.cv (.int .i64 1)] (.bin .add),I_ 18 [.tk 39] .mv]))))))
noncomputable def rc113_6:RC :=
 .block 1 (.seq (.reg false [I_ 17 [.sl 15] .mv,I_ 4 [.tk 17] .mv]) rc113_5)
noncomputable def rc113:RC :=
 .seq (.reg false [I_ 9 [.sl 1] (.ld .one),I_ 10 [.tv 9] .nilc,I_ 11 [.tv 10] (.fa 0),I_ 12 [.tv 11] (.fa 1),I_ 13 [.tv 12] (.ld .one),I_ 14 [.tk 13] .lenS,I_ 15 [.cv (.int .i64 0)] .mv]) (.block 0 (.loop (some [i_,i_,i_,o_,o_,o_,o_,o_,o_,o_,o_,o_,o_,o_,i_,i_,o_,o_,o_,o_,o_,o_,o_,o_,o_,o_,o_,o_,o_,o_,o_,o_,o_,o_,o_,o_,o_,o_,o_,o_,o_]) (.seq (.reg false [I_ 16 [.sl 15,.sl 14] (.bin .lss)]) (.seq (.cond (.sl 16) .skip (.exit 0)) (.seq rc113_6 (.reg false [I_ 40 [.tv 15,.cv (.int .i64 1)] (.bin .add),I_ 15 [.tk 40]
 .mv]))))))
theorem lk113:linkF Go.Proofs.Tryz.prog ann113 113=some (rc113,41,[]):=by kernel_rfl
end Go.Proofs.YtfakoboiahbhaaaGreat.Ab


namespace Go.Proofs.YtfakoboiahbhaaaGreat.Ab
open Go
set_option maxRecDepth 20000
set_option maxHeartbeats 4000000
abbrev Bk:=Int×List (Int×Int)
def plc (r:Nat):Int×Int:=(((r / 2:Nat):Int),((r % 2:Nat):Int))
def beg (t:Bk) (p:Int×Int):Int:=if 0<p.2 then (ix t.2 p.1).2 else (ix t.2 p.1).1
def fin (t:Bk) (p:Int×Int):Int:=if 0<p.2 then (ix t.2 p.1).1 else (ix t.2 p.1).2
theorem x68_eq {t:Bk} {p:Int×Int} (h:0≤p.1∧p.1<(t.2.length:Int)):x68 t p=some (beg t p,fin t p):=by
 rw [x68,gd_pos h]
 unfold beg fin
 by_cases h1:0<p.2
 ·rw [if_pos (decide_eq_true h1),if_pos h1,if_pos h1]
 ·rw [if_neg (by simpa using h1),if_neg h1,if_neg h1]
def begs (t:Bk) (figure:Int) (r:Nat):Bool:=decide (beg t (plc r)=figure)
def places (t:Bk) (figure:Int):List (Int×Int):=((List.range (2*t.2.length)).filter (begs t figure)).map plc
theorem filt_get (p:Nat→Bool) {j:Nat} (hp:p j=true):∀ {n:Nat},j<n→((List.range n).filter p)[((List.range j).filter p).length]?=some j
 | 0,h=>absurd h (by omega)
 | n+1,h=>by
   rw [List.range_succ,List.filter_append]
   by_cases hj:j<n
   ·have:=filt_get p hp hj
    rw [List.getElem?_append_left (List.getElem?_eq_some_iff.1 this).1,this]
   ·obtain rfl:j=n:=by omega
    rw [List.getElem?_append_right (Nat.le_refl _)]
    simp [hp]
theorem filt_succ (p:Nat→Bool) (j:Nat):((List.range (j+1)).filter p).length=((List.range j).filter p).length+if p j=true then 1 else 0:=by
 rw [List.range_succ,List.filter_append,List.length_append]
 by_cases h:p j=true
 ·rw [if_pos h];simp [h]
 ·rw [if_neg h];simp [h]
theorem step_rec {α:Type} (Y:α) (step:Nat→α→α):∃ Z:Nat→α,Z 0=Y∧∀ j,Z (j+1)=step j (Z j):=⟨fun n=>Nat.rec Y (fun j z=>step j z) n,rfl,fun _=>rfl⟩
theorem plc_in {n i b:Nat} (hi:i<n) (hb:b<2):plc (2*i+b)=((i:Int),(b:Int)):=by
 unfold plc
 rw [show (2*i+b) / 2=i by omega,show (2*i+b) % 2=b by omega]
theorem at_walk {t:Bk} {figure:Int} (hx:t.2.length≤1000) {L N:Nat} {Pre:Nat→List AObj} (hlen:∀ i,(Pre i).length=N) {c:Nat→Nat} (hc:∀ j,c j=((List.range j).filter (begs t figure)).length) {M:Nat} (hM:M≤2*t.2.length) {Z:Nat→List AObj} {He:List AObj}
  (hz:∀ r,r<M→if begs t figure r=true then Sem Tryz.prog (.yield L) [.agg (pr (plc r))] (Pre (c r)++(Z r++[AObj.cells (pr (plc r))])) 0 (.bool true) (Pre (c (r+1))++Z (r+1)) else Z (r+1)=Z r++[AObj.cells (pr (plc r))])
  (he:(M=2*t.2.length∧He=Pre (c M)++Z M)∨(M<2*t.2.length∧begs t figure M=true∧Sem Tryz.prog (.yield L) [.agg (pr (plc M))] (Pre (c M)++(Z M++[AObj.cells (pr (plc M))])) 0 (.bool false) He)) (hlow:Low 0 (Pre 0++Z 0) He) :
  Sem Tryz.prog (.fn 113) [.yield L,.lptr [.lptr [I t.1,.lst (t.2.flatMap pr) t.2.length .shared]],.lptr [I figure]] (Pre 0++Z 0) 0 (.tuple []) He:=by
 obtain ⟨n,hn⟩:∃ n,n=t.2.length:=⟨_,rfl⟩
 obtain ⟨p,hp⟩:∃ p,p=begs t figure:=⟨_,rfl⟩
 have hcs:∀ j,c (j+1)=c j+if p j=true then 1 else 0:=fun j=>by rw [hc,hc,hp];exact filt_succ _ j
 rw [←hn] at hM he hx
 rw [←hp] at hz he
 refine fn_semQ hmix lk113 rfl hlow fun Q hQ=>?_
 unfold rc113
 obtain ⟨c6,g6⟩:∃ c,rc113_6=c:=⟨_,rfl⟩
 rw [g6]
 conv=>whnf
 rw [←hn]
 refine .intro (fun m T H=>∃ i:Nat,i≤n∧2*i≤M∧m=n-i∧T=slots 41 [(0,.yield L),(1,.lptr [.lptr [I t.1,.lst (t.2.flatMap pr) n .shared]]),(2,.lptr [I figure]),(14,I (n:Int)),(15,I (i:Int))]∧H=Pre (c (2*i))++Z (2*i)) n ⟨0,Nat.zero_le _,Nat.zero_le _,rfl,rfl,by rw [hc];rfl⟩ ?_
 rintro m T H ⟨i,hi,hiM,rfl,rfl,rfl⟩
 conv=>whnf
 refine dcase (fun hc'=>?_) (fun hc'=>?_)
 ·have hlt:i<n:=by omega
  conv=>whnf
  refine wpG fun K1 hK1=>?_
  subst g6
  unfold rc113_6
  obtain ⟨c5,g5⟩:∃ c,rc113_5=c:=⟨_,rfl⟩
  rw [g5]
  conv=>whnf
  refine wpG fun K2 hK2=>?_
  subst g5
  unfold rc113_5
  obtain ⟨c4,g4⟩:∃ c,rc113_4=c:=⟨_,rfl⟩
  rw [g4]
  conv=>whnf
  refine .intro (fun m T H=>∃ b:Nat,b≤2∧2*i+b≤M∧m=2-b∧T=slots 41 [(0,.yield L),(1,.lptr [.lptr [I t.1,.lst (t.2.flatMap pr) n .shared]]),(2,.lptr [I figure]),(4,I (i:Int)),(14,I (n:Int)),(15,I (i:Int)),(18,I (b:Int))]∧H=Pre (c (2*i+b))++Z (2*i+b)) 2 ⟨0,Nat.zero_le _,hiM,rfl,rfl,rfl⟩ ?_
  rintro m T H ⟨b,hb,hbM,rfl,rfl,rfl⟩
  conv=>whnf
  refine dcase (fun hb'=>?_) (fun hb'=>?_)
  ·have hb2:b<2:=by omega
   have epl:plc (2*i+b)=((i:Int),(b:Int)):=plc_in hlt hb2
   have h68:x68 t ((i:Int),(b:Int))=some (beg t ((i:Int),(b:Int)),fin t ((i:Int),(b:Int))):=x68_eq ⟨by omega,by omega⟩
   have ok68:=x68_ok h68
   rw [←hn] at ok68
   conv=>whnf
   refine wpG fun K3 hK3=>?_
   subst g4
   unfold rc113_4
   obtain ⟨c3,g3⟩:∃ c,rc113_3=c:=⟨_,rfl⟩
   rw [g3]
   conv=>whnf
   refine wpG fun K4 hK4=>?_
   subst g3
   unfold rc113_3
   obtain ⟨c2,g2⟩:∃ c,rc113_2=c:=⟨_,rfl⟩
   rw [g2]
   conv=>whnf
   refine nthK_of (x:=AObj.cells [I (0:Int),I (0:Int)]) (by first | with_reducible exact get_concat _ _ | exact get_concat _ _ | exact ga (get_concat _ _) | rfl | (simp [List.getElem?_append,AV.settle];done)) ?_
   conv=>whnf
   rw [set_concat]
   refine wpG fun K5 hK5=>?_
   subst g2
   unfold rc113_2
   obtain ⟨c1,g1⟩:∃ c,rc113_1=c:=⟨_,rfl⟩
   rw [g1]
   conv=>whnf
   refine nthK_of (x:=AObj.cells [I (i:Int),I (b:Int)]) (by first | with_reducible exact get_concat _ _ | exact get_concat _ _ | exact ga (get_concat _ _) | rfl | (simp [List.getElem?_append,AV.settle];done)) ?_
   conv=>whnf
   refine ⟨(allc (pu_lptr (allc rfl (allc (pu_flat (fun _=>(allc rfl (allc rfl rfl))) _ _ _) rfl))) (allc (pu_agg (allc rfl (allc rfl rfl))) rfl)),_,ok68,?_⟩
   conv=>whnf
   refine wpG fun K6 hK6=>?_
   subst g1
   unfold rc113_1
   conv=>whnf
   rcases bt (decide (beg t ((i:Int),(b:Int))=figure)) with hbt | hbt
   ·have hpj:p (2*i+b)=true:=by rw [hp];show decide (beg t (plc (2*i+b))=figure)=true;rw [epl];exact hbt
    rw [hbt]
    conv=>whnf
    refine nthK_of (x:=AObj.cells [I (i:Int),I (b:Int)]) (by first | with_reducible exact get_concat _ _ | exact get_concat _ _ | exact ga (get_concat _ _) | rfl | (simp [List.getElem?_append,AV.settle];done)) ?_
    conv=>whnf
    rw [List.append_assoc]
    by_cases hMM:2*i+b<M
    ·have hr:=hz _ hMM
     rw [if_pos hpj,epl] at hr
     refine ⟨_,_,call1 hr,?_⟩
     conv=>whnf
     refine hK6 _ _ _ ?_
     conv=>whnf
     refine hK5 _ _ _ ?_
     conv=>whnf
     refine hK4 _ _ _ ?_
     conv=>whnf
     refine hK3 _ _ _ ?_
     conv=>whnf
     refine ⟨2-(b+1),by omega,b+1,by omega,by omega,rfl,?_,rfl⟩
     rw [show IntKind.i64.wrap ((b:Int)+1)=((b+1:Nat):Int) by rw [wrapI _ (by omega) (by omega)];omega];rfl
    ·have hMe:M=2*i+b:=by omega
     rcases he with ⟨h1,_⟩ | ⟨_,_,h3⟩
     ·omega
     ·rw [hMe,epl] at h3
      refine ⟨_,_,call1 h3,?_⟩
      conv=>whnf
      refine hK6 _ _ _ ?_
      conv=>whnf
      refine hK5 _ _ _ ?_
      conv=>whnf
      refine hK4 _ _ _ ?_
      conv=>whnf
      refine hK3 _ _ _ ?_
      conv=>whnf
      refine hK2 _ _ _ ?_
      conv=>whnf
      refine hK1 _ _ _ ?_
      conv=>whnf
      exact hQ _ _ _ ⟨.inr rfl,Fgt.refl _,rfl⟩
   ·have hpj:¬ p (2*i+b)=true:=by rw [hp];show ¬ decide (beg t (plc (2*i+b))=figure)=true;rw [epl,hbt];decide
    have hMM:2*i+b<M:=by
     rcases he with ⟨h1,_⟩ | ⟨_,h2,_⟩
     ·omega
     ·rcases Nat.lt_or_ge (2*i+b) M with h | h
      ·exact h
      ·rw [show M=2*i+b by omega] at h2;exact absurd h2 hpj
    have hr:=hz _ hMM
    rw [if_neg hpj,epl] at hr
    rw [hbt]
    conv=>whnf
    refine hK6 _ _ _ ?_
    conv=>whnf
    refine hK5 _ _ _ ?_
    conv=>whnf
    refine hK4 _ _ _ ?_
    conv=>whnf
    refine hK3 _ _ _ ?_
    conv=>whnf
    refine ⟨2-(b+1),by omega,b+1,by omega,by omega,rfl,?_,?_⟩
    ·rw [show IntKind.i64.wrap ((b:Int)+1)=((b+1:Nat):Int) by rw [wrapI _ (by omega) (by omega)];omega];rfl
    ·rw [show 2*i+(b+1)=2*i+b+1 by omega,hr,hcs,if_neg hpj,List.append_assoc];rfl
  ·obtain rfl:b=2:=by omega
   conv=>whnf
   refine hK2 _ _ _ ?_
   conv=>whnf
   refine hK1 _ _ _ ?_
   conv=>whnf
   refine ⟨n-(i+1),by omega,i+1,by omega,by omega,rfl,?_,rfl⟩
   rw [show IntKind.i64.wrap ((i:Int)+1)=((i+1:Nat):Int) by rw [wrapI _ (by omega) (by omega)];omega];rfl
 ·obtain rfl:i=n:=by omega
  conv=>whnf
  rcases he with ⟨h1,h2⟩ | ⟨h1,_,_⟩
  ·subst h2
   rw [h1] at hQ
   exact hQ _ _ _ ⟨.inl rfl,Fgt.refl _,rfl⟩
  ·omega
theorem at_chain {t:Bk} {figure:Int} {L N:Nat} {Pre:Nat→List AObj} (hlen:∀ i,(Pre i).length=N) {c:Nat→Nat} (hc:∀ j,c j=((List.range j).filter (begs t figure)).length) {M:Nat} (Y:List AObj)
  (hr:∀ r,r<M→begs t figure r=true→∀ Y,∃ Y',Sem Tryz.prog (.yield L) [.agg (pr (plc r))] (Pre (c r)++Y) 0 (.bool true) (Pre (c r+1)++Y')) :
  ∃ Z:Nat→List AObj,Z 0=Y∧(∀ r,r<M→if begs t figure r=true then Sem Tryz.prog (.yield L) [.agg (pr (plc r))] (Pre (c r)++(Z r++[AObj.cells (pr (plc r))])) 0 (.bool true) (Pre (c (r+1))++Z (r+1)) else Z (r+1)=Z r++[AObj.cells (pr (plc r))]) ∧
    ∀ r,r≤M→(Pre 0++Y).length≤(Pre (c r)++Z r).length:=by
 have hcs:∀ j,c (j+1)=c j+if begs t figure j=true then 1 else 0:=fun j=>by rw [hc,hc];exact filt_succ _ j
 have hr':∀ (j:Nat) (Y:List AObj),∃ Y',j<M→begs t figure j=true→Sem Tryz.prog (.yield L) [.agg (pr (plc j))] (Pre (c j)++Y) 0 (.bool true) (Pre (c (j+1))++Y'):=fun j Y=>by
  by_cases hj:j<M∧begs t figure j=true
  ·obtain ⟨Y',h⟩:=hr j hj.1 hj.2 Y
   exact ⟨Y',fun _ _=>by rw [hcs,if_pos hj.2];exact h⟩
  ·exact ⟨[],fun a b=>absurd ⟨a,b⟩ hj⟩
 obtain ⟨g,hg⟩:∃ g:Nat→List AObj→List AObj,∀ (j:Nat) (Y:List AObj),j<M→begs t figure j=true→Sem Tryz.prog (.yield L) [.agg (pr (plc j))] (Pre (c j)++Y) 0 (.bool true) (Pre (c (j+1))++g j Y) :=
  ⟨fun j Y=>Classical.choose (hr' j Y),fun j Y=>Classical.choose_spec (hr' j Y)⟩
 clear hr'
 obtain ⟨Z,hZ0,hZ⟩:=step_rec Y fun j Y=>if begs t figure j=true then g j (Y++[AObj.cells (pr (plc j))]) else Y++[AObj.cells (pr (plc j))]
 refine ⟨Z,hZ0,fun r hrM=>?_,fun r=>?_⟩
 ·by_cases h:begs t figure r=true
  ·rw [if_pos h,hZ r,if_pos h];exact hg r _ hrM h
  ·rw [if_neg h,hZ r,if_neg h]
 ·induction r with
  | zero=>intro _;rw [hZ0,List.length_append,List.length_append,hlen,hlen];exact Nat.le_refl _
  | succ j ih =>
    intro hj
    refine Nat.le_trans (ih (by omega)) ?_
    by_cases hpj:begs t figure j=true
    ·have h1:=(hg j (Z j++[AObj.cells (pr (plc j))]) (by omega) hpj).1.1
     rw [hZ j]
     simp only [if_pos hpj]
     refine Nat.le_trans ?_ h1
     rw [←List.append_assoc];simp
    ·rw [hZ j,hcs,if_neg hpj]
     simp only [if_neg hpj]
     rw [←List.append_assoc];simp
theorem places_get {t:Bk} {figure:Int} {r:Nat} (hr:r<2*t.2.length) (hb:begs t figure r=true):((places t figure).map fun p=>AV.agg (pr p))[((List.range r).filter (begs t figure)).length]?=some (.agg (pr (plc r))):=by
 rw [places,List.map_map,List.getElem?_map,filt_get _ hb hr];rfl
def s113 (t:Bk) (figure:Int):Option (List (Int×Int)):=if t.2.length≤1000 then some (places t figure) else none
theorem s113_ok {t:Bk} {figure:Int} {v:List (Int×Int)} (h:s113 t figure=some v):Seq Tryz.prog 113 [.lptr [.lptr [I t.1,.lst (t.2.flatMap pr) t.2.length .shared]],.lptr [I figure]] (v.map fun e1=>.agg [I e1.1,I e1.2]):=by
 unfold s113 at h
 split at h
 ·rename_i hx
  obtain rfl:=Option.some.inj h
  intro L N Pre hlen hL hr Y
  have hc:∀ j,((List.range j).filter (begs t figure)).length=((List.range j).filter (begs t figure)).length:=fun _=>rfl
  have hE:((places t figure).map fun e1=>AV.agg [I e1.1,I e1.2]).length=((List.range (2*t.2.length)).filter (begs t figure)).length:=by simp [places]
  obtain ⟨Z,hZ0,hZ,hle⟩:=at_chain (t:=t) (figure:=figure) (L:=L) hlen hc (M:=2*t.2.length) Y fun r hrM hb Y=>by
   have hg:=places_get hrM hb
   obtain ⟨h1,h2⟩:=List.getElem?_eq_some_iff.1 hg
   obtain ⟨Y',h⟩:=hr _ h1 Y
   refine ⟨Y',?_⟩
   rw [←h2];exact h
  refine ⟨Z (2*t.2.length),?_⟩
  rw [hE,←hZ0]
  exact at_walk hx hlen hc (Nat.le_refl _) hZ (.inl ⟨rfl,rfl⟩) (low0 (by rw [hZ0];exact hle _ (Nat.le_refl _)))
 ·cases h
theorem s113S_ok {t:Bk} {figure:Int} {v:List (Int×Int)} (h:s113 t figure=some v):SeqS Tryz.prog 113 [.lptr [.lptr [I t.1,.lst (t.2.flatMap pr) t.2.length .shared]],.lptr [I figure]] (v.map fun e1=>.agg [I e1.1,I e1.2]):=by
 unfold s113 at h
 split at h
 ·rename_i hx
  obtain rfl:=Option.some.inj h
  intro L N Pre Post n hlen hL hlp hn hr hlast Y
  have hc:∀ j,((List.range j).filter (begs t figure)).length=((List.range j).filter (begs t figure)).length:=fun _=>rfl
  have hn':n<((List.range (2*t.2.length)).filter (begs t figure)).length:=by simpa [places] using hn
  obtain ⟨M,hM,hbM,hcM⟩:∃ M,M<2*t.2.length∧begs t figure M=true∧((List.range M).filter (begs t figure)).length=n:=by
   have hm:=List.getElem_mem hn'
   obtain ⟨h1,h2⟩:=List.mem_filter.1 hm
   have h1:((List.range (2*t.2.length)).filter (begs t figure))[n]<2*t.2.length:=by simpa using h1
   refine ⟨_,h1,h2,?_⟩
   have hg:=filt_get _ h2 h1
   have hnd:((List.range (2*t.2.length)).filter (begs t figure)).Nodup:=List.nodup_range.filter _
   obtain ⟨h3,h4⟩:=List.getElem?_eq_some_iff.1 hg
   exact (List.getElem_inj hnd).1 h4
  have hmono:∀ a b,a≤b→((List.range a).filter (begs t figure)).length≤((List.range b).filter (begs t figure)).length:=fun a b hab=>by
   obtain ⟨d,rfl⟩:=Nat.exists_eq_add_of_le hab
   induction d with
   | zero=>exact Nat.le_refl _
   | succ d ih=>rw [←Nat.add_assoc,filt_succ];exact Nat.le_trans (ih (by omega)) (Nat.le_add_right _ _)
  obtain ⟨Z,hZ0,hZ,hle⟩:=at_chain (t:=t) (figure:=figure) (L:=L) hlen hc (M:=M) Y fun r hrM hb Y=>by
   have hg:=places_get (show r<2*t.2.length by omega) hb
   obtain ⟨h1,h2⟩:=List.getElem?_eq_some_iff.1 hg
   have hlt:((List.range r).filter (begs t figure)).length<n:=by
    have:=hmono (r+1) M (by omega)
    rw [filt_succ,if_pos hb,hcM] at this;omega
   obtain ⟨Y',h⟩:=hr _ hlt Y
   refine ⟨Y',?_⟩
   rw [←h2];exact h
  obtain ⟨Y',hl⟩:=hlast (Z M++[AObj.cells (pr (plc M))])
  have hg:=places_get hM hbM
  rw [hcM] at hg
  obtain ⟨h1,h2⟩:=List.getElem?_eq_some_iff.1 hg
  refine ⟨Y',?_⟩
  rw [←hZ0]
  refine at_walk hx hlen hc (M:=M) (by omega) hZ (.inr ⟨hM,hbM,?_⟩) (low0 ?_)
  ·rw [hcM,←h2];exact hl
  ·have e1:=hle M (Nat.le_refl _)
   have e2:=hl.1.1
   rw [hcM] at e1
   rw [hZ0]
   refine Nat.le_trans e1 (Nat.le_trans ?_ e2)
   rw [←List.append_assoc];simp
 ·cases h
end Go.Proofs.YtfakoboiahbhaaaGreat.Ab


namespace Go.Proofs.YtfakoboiahbhaaaGreat.Ab
open Go Go.ChangeShapes Go.WideShapes Go.ChangeAt Go.RowKit
set_option maxRecDepth 100000
section
variable {H:Type} {enc:TypeId×Value→H} {w:World} {base:Nat}
def Qi:AV→Prop:=fun u=>∃ x,u=I x∧Fi x
theorem cel_i3:Cel enc Tryz.prog w 3 Qi:=fun n v y h=>by
 obtain ⟨u,a,b,c,x,rfl,d⟩:=cel_int (P:=Tryz.prog) Tryz.underlying3 n v y h
 exact ⟨_,a,b,c,x,rfl,wf_i64 d⟩
theorem pair_of {us:List AV} (h:AllQ [Qi,Qi] us):∃ p:Int×Int,us=pr p∧Fi p.1∧Fi p.2:=by
 obtain ⟨hl,h⟩:=h
 match us,hl with
 | [a,b],_ =>
   obtain ⟨x,rfl,hx⟩:=h 0 _ _ rfl rfl
   obtain ⟨y,rfl,hy⟩:=h 1 _ _ rfl rfl
   exact ⟨(x,y),rfl,hx,hy⟩
def Fp (ps:List (Int×Int)):Prop:=ps.length≤9223372036854775807∧∀ p∈ps,Fi p.1∧Fi p.2
abbrev PL (ps:List (Int×Int)):AV:=.lst (ps.flatMap pr) ps.length .shared
def Qp:AV→Prop:=fun u=>∃ ps,u=PL ps∧Fp ps
theorem flds_sheet : Flds enc Tryz.prog w #[{ name := "Left", type := 3, offset := 0, embedded := false, tag := "", pkgPath := "", byteOffset := 0 }, { name := "Right", type := 3, offset := 1, embedded := false, tag := "", pkgPath := "", byteOffset := 8 }] [Qi, Qi] := ⟨rfl, fun i f q hf hq => by
 match i with
 | 0=>simp at hf hq;subst hf;subst hq;exact ⟨rfl,by kernel_rfl,cel_i3⟩
 | 1=>simp at hf hq;subst hf;subst hq;exact ⟨rfl,by kernel_rfl,cel_i3⟩
 | i+2=>simp at hq⟩
theorem cel_sheets:Cel enc Tryz.prog w 22 Qp:=fun n v y h=>by
 obtain ⟨u,a,b,c,L,rfl,hl,hL⟩:=cel_structs Tryz.underlying22 Tryz.underlying67 (by kernel_rfl) (by decide) flds_sheet n v y h
 obtain ⟨ps,rfl,hp⟩:=map_of' (f:=pr) (R:=fun p:Int×Int=>Fi p.1∧Fi p.2) fun us hu=>by
  obtain ⟨p,e,h1,h2⟩:=pair_of (hL us hu);exact ⟨p,e,h1,h2⟩
 refine ⟨_,a,b,c,ps,?_,by have:=maxLen_le hl;simpa using this,hp⟩
 simp [PL,List.flatMap_def]
structure Fbk (b:Bk):Prop where
 f:Fi b.1
 l:Fp b.2
theorem arg_book:Arg enc Tryz.prog w base 24 fun u=>∃ b:Bk,u=.agg [I b.1,PL b.2]∧Fbk b:=by
 intro v d p hv hd
 obtain ⟨u,a,b,us,rfl,hl,hu⟩:=arg_struct (P:=Tryz.prog) (enc:=enc) (w:=w) (base:=base) (Qs:=[Qi,Qp]) Tryz.underlying24 (by kernel_rfl) ⟨rfl,fun i f q hf hq=>by
  match i with
  | 0=>simp at hf hq;subst hf;subst hq;exact ⟨rfl,by kernel_rfl,cel_i3⟩
  | 1=>simp at hf hq;subst hf;subst hq;exact ⟨rfl,by kernel_rfl,cel_sheets⟩
  | i+2=>simp at hq⟩ v d p hv hd
 match us,hl with
 | [a0,a1],_ =>
   obtain ⟨x,rfl,hx⟩:=hu 0 _ _ rfl rfl
   obtain ⟨y,rfl,hy⟩:=hu 1 _ _ rfl rfl
   exact ⟨_,a,b,(x,y),rfl,hx,hy⟩
end
end Go.Proofs.YtfakoboiahbhaaaGreat.Ab


namespace Go.Proofs.YtfakoboiahbhaaaGreat.Ab
open Go Go.ChangeShapes Go.WideShapes Go.ChangeAt Go.RowKit
set_option maxRecDepth 100000
section
variable {H:Type} {enc:TypeId×Value→H} {w:World} {base:Nat}
theorem arg_u8:Arg enc Tryz.prog w base 5 fun u=>∃ x,u=.int .u8 x∧0≤x∧x≤255:=fun v d p hv hd=>by
 obtain ⟨u,a,b,x,rfl,h⟩:=arg_int (P:=Tryz.prog) (enc:=enc) (w:=w) (base:=base) Tryz.underlying5 v d p hv hd
 exact ⟨_,a,b,x,rfl,wf_u8 h⟩
structure Frs (l:List (List (Int×Int))):Prop where
 n:l.length≤9223372036854775807
 v:∀ r∈l,Fp r
end
end Go.Proofs.YtfakoboiahbhaaaGreat.Ab


namespace Go.Proofs.YtfakoboiahbhaaaGreat.Ab
open Go
def capEq:Cap→Cap→Bool
 | .shared,.shared=>true
 | .full,.full=>true
 | .own a,.own b=>Nat.beq a b
 | .uniq a,.uniq b=>Nat.beq a b
 | _,_=>false
theorem capEq_ok:∀ {a b:Cap},capEq a b=true→a=b:=by
 intro a b h
 cases a <;> cases b <;> simp only [capEq,Bool.false_eq_true] at h <;> first | rfl | (rw [Nat.eq_of_beq_eq_true h])
def lEq (f:AV→AV→Bool):List AV→List AV→Bool
 | [],[]=>true
 | a::l,b::r=>match f a b with
   | true=>lEq f l r
   | false=>false
 | _,_=>false
theorem lEq_ok {f:AV→AV→Bool} (hf:∀ a b,f a b=true→a=b):∀ {a b:List AV},lEq f a b=true→a=b
 | [],[],_=>rfl
 | [],_::_,h=>by simp [lEq] at h
 | _::_,[],h=>by simp [lEq] at h
 | a::l,b::r,h=>by
   simp only [lEq] at h
   split at h
   ·rename_i hab;rw [hf a b hab,lEq_ok hf h]
   ·cases h
def avEq:Nat→AV→AV→Bool
 | 0,_,_=>false
 | d+1,a,b=>match a,b with
   | .bool x,.bool y=>match x,y with | true,true=>true | false,false=>true | _,_=>false
   | .int k x,.int q y=>match decide (k=q),decide (x=y) with | true,true=>true | _,_=>false
   | .nilp,.nilp=>true
   | .lptr x,.lptr y=>lEq (avEq d) x y
   | .lst x n c,.lst y m e=>match lEq (avEq d) x y,Nat.beq n m,capEq c e with | true,true,true=>true | _,_,_=>false
   | .func f x y,.func g z w=>match Nat.beq f g,lEq (avEq d) x z,lEq (avEq d) y w with | true,true,true=>true | _,_,_=>false
   | .agg x,.agg y=>lEq (avEq d) x y
   | .tuple x,.tuple y=>lEq (avEq d) x y
   | _,_=>false
theorem avEq_ok:∀ (d:Nat) (a b:AV),avEq d a b=true→a=b
 | 0,_,_,h=>by simp [avEq] at h
 | d+1,a,b,h=>by
   have ih:=avEq_ok d
   unfold avEq at h
   split at h
   ·split at h <;> first | rfl | cases h
   ·rename_i k x q y
    split at h
    ·rename_i h1 h2;rw [of_decide_eq_true h1,of_decide_eq_true h2]
    ·cases h
   ·rfl
   ·rw [lEq_ok ih h]
   ·split at h
    ·rename_i h1 h2 h3;rw [lEq_ok ih h1,Nat.eq_of_beq_eq_true h2,capEq_ok h3]
    ·cases h
   ·split at h
    ·rename_i h1 h2 h3;rw [Nat.eq_of_beq_eq_true h1,lEq_ok ih h2,lEq_ok ih h3]
    ·cases h
   ·rw [lEq_ok ih h]
   ·rw [lEq_ok ih h]
   ·cases h
inductive Ent where
 | pure (k:Nat) (args:List AV) (v:AV)
 | map (k:Nat) (args:List AV) (es:List (Nat×AV×AV)) (clock:Nat)
def entOk (P:Program):Ent→Prop
 | .pure k args v=>PureOk P k args v
 | .map k args es clock=>∀ H,Sem P (.fn k) args H H.length (.map H.length) (H++[.map es clock])
def look (k:Nat) (args:List AV) (H:List AObj) (lo:Nat):List Ent→Option (AV×List AObj)
 | []=>none
 | .pure q bs v::r=>match Nat.beq k q with
   | true=>match lEq (avEq 20) args bs with
     | true=>match H with
       | []=>some (v,[])
       | _=>look k args H lo r
     | false=>look k args H lo r
   | false=>look k args H lo r
 | .map q bs es clock::r=>match Nat.beq k q with
   | true=>match lEq (avEq 20) args bs with
     | true=>match Nat.beq lo H.length with
       | true=>some (.map H.length,H++[.map es clock])
       | false=>look k args H lo r
     | false=>look k args H lo r
   | false=>look k args H lo r
def tabOf (l:List Ent):CallFn:=fun tgt args H lo=>match tgt with
 | .fn k=>look k args H lo l
 | _=>none
theorem Sem.lo0 {P:Program} {tgt:Tgt} {args:List AV} {r:AV} {H':List AObj} (h:Sem P tgt args [] 0 r H') (lo:Nat):Sem P tgt args [] lo r H' :=
 ⟨⟨h.1.1,fun _ _ h=>by simp at h⟩,h.2⟩
theorem look_ok {P:Program} {k:Nat} {args:List AV} {H:List AObj} {lo:Nat} {r:AV} {H':List AObj}:∀ {l:List Ent},(∀ e∈l,entOk P e)→look k args H lo l=some (r,H')→Sem P (.fn k) args H lo r H'
 | [],_,h=>by simp [look] at h
 | .pure q bs v::l,hl,h=>by
   have hrec:=look_ok (k:=k) (args:=args) (H:=H) (lo:=lo) (r:=r) (H':=H') fun e he=>hl e (List.mem_cons_of_mem _ he)
   unfold look at h
   split at h
   ·rename_i h1
    split at h
    ·rename_i h2
     split at h
     ·cases h
      have:=hl (.pure q bs r) List.mem_cons_self
      rw [Nat.eq_of_beq_eq_true h1,lEq_ok (avEq_ok 20) h2]
      exact this.1.lo0 lo
     ·exact hrec h
    ·exact hrec h
   ·exact hrec h
 | .map q bs es clock::l,hl,h=>by
   have hrec:=look_ok (k:=k) (args:=args) (H:=H) (lo:=lo) (r:=r) (H':=H') fun e he=>hl e (List.mem_cons_of_mem _ he)
   unfold look at h
   split at h
   ·rename_i h1
    split at h
    ·rename_i h2
     split at h
     ·rename_i h3
      cases h
      have:=hl (.map q bs es clock) List.mem_cons_self
      rw [Nat.eq_of_beq_eq_true h1,lEq_ok (avEq_ok 20) h2,Nat.eq_of_beq_eq_true h3]
      exact this H
     ·exact hrec h
    ·exact hrec h
   ·exact hrec h
theorem tab_sound {P:Program} {l:List Ent} (hl:∀ e∈l,entOk P e):CSound P (tabOf l):=csound_of fun tgt args H lo r H' h=>by
 cases tgt with
 | fn k=>exact look_ok hl h
 | yield i=>simp [tabOf] at h
def okFrom (A:FuncId→FAnn):Nat→List Func→Bool
 | _,[]=>true
 | k,f::r=>match (A k).bad with
   | true=>okFrom A (k+1) r
   | false=>match f.body with
     | some c => match codeOk (A k) c, f.name == "runtime.NumGoroutine" with
       | true,false=>okFrom A (k+1) r
       | _,_=>false
     | none=>okFrom A (k+1) r
theorem okFrom_ok {A : FuncId → FAnn} : ∀ {l : List Func} {k : Nat}, okFrom A k l = true → ∀ (i : Nat) (f : Func) (c : Code), (A (k + i)).bad = false → l[i]? = some f → f.body = some c → codeOk (A (k + i)) c = true ∧ f.name ≠ "runtime.NumGoroutine"
 | [],_,_,i,f,c,_,h,_=>by simp at h
 | g::r,k,h,i,f,c,hbad,hf,hc=>by
   unfold okFrom at h
   cases i with
   | zero =>
     simp at hf;subst hf
     rw [Nat.add_zero] at hbad
     rw [hbad,hc] at h
     simp only at h
     split at h
     ·rename_i h1 h2;exact ⟨h1,by simpa using h2⟩
     ·cases h
   | succ i =>
     have hr:okFrom A (k+1) r=true:=by
      split at h
      ·exact h
      ·split at h
       ·split at h
        ·exact h
        ·cases h
       ·exact h
     have:=okFrom_ok hr i f c (by rw [show k+1+i=k+(i+1) by omega];exact hbad) (by simpa using hf) hc
     rw [show k+(i+1)=k+1+i by omega];exact this
theorem okAll {P : Program} {A : FuncId → FAnn} (h : okFrom A 0 P.funcs.toList = true) (k : Nat) (f : Func) (c : Code) (hb : (A k).bad = false) (hf : P.funcs[k]? = some f) (hc : f.body = some c) : codeOk (A k) c = true ∧ f.name ≠ "runtime.NumGoroutine" := by
 have:=okFrom_ok h k f c (by rw [Nat.zero_add];exact hb) (by simpa using hf) hc
 rwa [Nat.zero_add] at this
theorem ann_ok:okFrom ann 0 Go.Proofs.Tryz.prog.funcs.toList=true:=by kernel_rfl
noncomputable def runC (l:List Ent) (k:Nat) (args:List AV):Option AV:=match callF Go.Proofs.Tryz.prog ann (tabOf l) 300 (.fn k) args [] 0 with
 | some (r,H2)=>match frz H2 0 H2.length 0 8 r with
   | some v=>match pureD 8 v.settle with
     | true=>some v.settle
     | false=>none
   | none=>none
 | none=>none
theorem runC_ok {l:List Ent} (hl:∀ e∈l,entOk Go.Proofs.Tryz.prog e) {k:Nat} {args:List AV} {v:AV} (h:runC l k args=some v):PureOk Go.Proofs.Tryz.prog k args v:=by
 unfold runC at h
 split at h
 ·rename_i r H2 hc
  split at h
  ·rename_i u hf
   split at h
   ·rename_i hp
    cases h
    have hs:=(callF_sound hmix ann (tab_sound hl) (okAll ann_ok) 300).sem hc
    refine ⟨⟨Low.refl _ _,hs.2.1,fun B ω κ S w xs hH hn hv=>CallsIn.mono (hs.2.2 B ω κ S w xs hH hn hv) fun e w' he=>?_⟩,hp⟩
    cases e with
    | returned x =>
      have hpost:=post_frz hH (fun id hid=>by simp at hid) hf he
      show Post B ω κ S w [] u.settle x w'
      cases u with
      | lst cells len cp =>
        cases cp with
        | uniq z=>exact hpost.settle
        | _=>exact hpost
      | _=>exact hpost
    | panicked c=>exact he.elim
    | outgrown=>exact he.elim
   ·cases h
  ·cases h
 ·cases h
end Go.Proofs.YtfakoboiahbhaaaGreat.Ab


namespace Go.Proofs.YtfakoboiahbhaaaGreat.Ab
open Go
section
variable {P:Program} {B N:Nat} {κ:List Nat} {w:World} {ω:Nat→Option Lab} {S:Nat→Nat→Prop}
theorem run_frontR {C:CallFn} {lo:Nat} {ops:Array Oper} {an:List OpAnn} {i:Nat} {oi:Oper} (hi:ops[i]?=some oi) {R:Nat→Nat→Prop} {s':St}:∀ (l:List Nat) (s:St),l.Pairwise R→i∈l →
  (∀ j∈l,R j i→∀ oj,ops[j]?=some oj→indep ops oj (an.getD j {}) oi (an.getD i {})=true)→runI P C lo ops an l s=some s' →
  ∃ s1,stepA P C lo ops oi (an.getD i {}) s=some s1∧runI P C lo ops an (l.erase i) s1=some s'
 | [],s,_,h,_,_=>by simp at h
 | j::r,s,hp,hm,hind,h=>by
   by_cases hji:j=i
   ·subst hji
    simp only [runI,hi,Option.bind_eq_some_iff] at h
    obtain ⟨s1,h1,h2⟩:=h
    exact ⟨s1,h1,by simpa using h2⟩
   ·have hr:i∈r:=by
     rcases List.mem_cons.1 hm with h | h
     ·exact absurd h.symm hji
     ·exact h
    have hlt:R j i:=(List.pairwise_cons.1 hp).1 i hr
    have he:(j::r).erase i=j::r.erase i:=by
     rw [List.erase_cons];simp [hji]
    rw [he]
    simp only [runI] at h ⊢
    cases hj:ops[j]? with
    | none =>
      simp only [hj] at h
      exact run_frontR hi r s (List.pairwise_cons.1 hp).2 hr (fun k hk=>hind k (by simp [hk])) h
    | some oj =>
      simp only [hj,Option.bind_eq_some_iff] at h
      obtain ⟨s1,h1,h2⟩:=h
      obtain ⟨s2,k1,k2⟩:=run_frontR hi r s1 (List.pairwise_cons.1 hp).2 hr (fun k hk=>hind k (by simp [hk])) h2
      obtain ⟨s3,q1,q2⟩:=stepA_comm (hind j (by simp) hlt oj hj) h1 k1
      exact ⟨s3,q1,by dsimp only;rw [q2];exact k2⟩
def remO (O:List Nat) (listed:Array Bool):List Nat:=O.filter fun i=>!listed.getD i true
theorem remO_set {O:List Nat} (hO:O.Nodup) {i:Nat} {listed:Array Bool}:remO O (listed.setIfInBounds i true)=(remO O listed).erase i:=by
 have hnd:(remO O listed).Nodup:=hO.filter _
 rw [hnd.erase_eq_filter]
 simp only [remO,List.filter_filter]
 congr 1
 funext j
 by_cases hij:j=i
 ·subst hij
  rcases Nat.lt_or_ge j listed.size with h | h
  ·simp [Array.getD_eq_getD_getElem?,h]
  ·simp [Array.getD_eq_getD_getElem?,h]
 ·have:(listed.setIfInBounds i true).getD j true=listed.getD j true:=by
   simp only [Array.getD_eq_getD_getElem?]
   rw [Array.getElem?_setIfInBounds_ne (Ne.symm hij)]
  rw [this];simp [hij]
def pairsOk2 (ops:Array Oper) (an:List OpAnn) (ms:List Nat) (p q:Nat):Bool :=
 (List.range ops.size).all fun j=>match ops[j]? with
  | none=>true
  | some oj=>(ms.getD j 0 == maskOf ms oj) && oj.after.toList.all (fun e=>!Region.binds .any e || Nat.blt e.on j) &&
    (List.range j).all fun i=>match ops[i]? with
     | none=>true
     | some oi=>(ms.getD j 0).testBit i || indep ops oi (an.getD i {}) oj (an.getD j {}) || (Nat.beq i p && Nat.beq j q)
def drawOk2 (ops:Array Oper) (an:List OpAnn) (p q:Nat):Bool:=pairsOk2 ops an (masks ops.toList []) p q
def swapO (n p q:Nat):List Nat:=(List.range n).map fun i=>if i=p then q else if i=q then p else i
def R2 (p q j i:Nat):Prop:=(j<i∧¬ (j=p∧i=q))∨(j=q∧i=p)
theorem swapO_pair {n p:Nat} (hq:p+1<n):(swapO n p (p+1)).Pairwise (R2 p (p+1)):=by
 unfold swapO
 rw [List.pairwise_map]
 refine List.Pairwise.imp (fun {a b} h=>?_) List.pairwise_lt_range
 unfold R2
 split <;> split <;> (try split) <;> (try split) <;> omega
theorem swapO_nodup {n p:Nat} (hq:p+1<n):(swapO n p (p+1)).Nodup:=by
 unfold swapO List.Nodup
 rw [List.pairwise_map]
 refine List.Pairwise.imp (fun {a b} h=>?_) List.nodup_range
 split <;> split <;> (try split) <;> (try split) <;> omega
theorem swapO_mem {n p:Nat} (hq:p+1<n) (i:Nat):i∈swapO n p (p+1)↔i<n:=by
 unfold swapO
 rw [List.mem_map]
 constructor
 ·rintro ⟨a,ha,rfl⟩
  have:=List.mem_range.1 ha
  split <;> (try split) <;> omega
 ·intro h
  refine ⟨if i=p then p+1 else if i=p+1 then p else i,List.mem_range.2 ?_,?_⟩
  ·split <;> (try split) <;> omega
  ·by_cases h1:i=p
   ·subst h1;simp
   ·by_cases h2:i=p+1
    ·subst h2;simp
    ·simp [h1,h2]
theorem any_sim2 {F:Fence} (hF:Fen F) {C:CallFn} (hC:CSound P C) {lo:Nat} {ops:Array Oper} {an:List OpAnn} {p:Nat} (hq:p+1<ops.size) (hd:drawOk2 ops an p (p+1)=true) {Q:Exit→Act→World→Prop} {s1 s2:St} :
  ∀ (fuel:Nat) (listed:Array Bool) (s:St) (a:Act) (w:World) (ω:Nat→Option Lab) (κ:List Nat) (S:Nat→Nat→Prop),(remO (List.range ops.size) listed).length≤fuel→closedL ops listed →
    ((runI P C lo ops an (remO (List.range ops.size) listed) s=some s1∧runI P C lo ops an (remO (swapO ops.size p (p+1)) listed) s=some s2∧listed.getD p true=false∧listed.getD (p+1) true=false) ∨
      (runI P C lo ops an (remO (List.range ops.size) listed) s=some s1∧listed.getD p true=true)∨(runI P C lo ops an (remO (swapO ops.size p (p+1)) listed) s=some s2∧listed.getD (p+1) true=true)) →
    ARel B N ω κ S w s a→(∀ s',s'=s1∨s'=s2→∀ a' w',Step B N ω κ S w s' a' w'→Q .normal a' w')→wpAnyIn F 0 P .any ops Q fuel listed a w:=by
 have hall:∀ j oj,ops[j]?=some oj→((masks ops.toList []).getD j 0=maskOf (masks ops.toList []) oj)∧(∀ e∈oj.after,Region.binds .any e=true→e.on<j) ∧
   ∀ i oi,i<j→ops[i]?=some oi→((masks ops.toList []).getD j 0).testBit i=true∨indep ops oi (an.getD i {}) oj (an.getD j {})=true∨(i=p∧j=p+1):=fun j oj hj=>by
  have hlt:j<ops.size:=(Array.getElem?_eq_some_iff.1 hj).1
  simp only [drawOk2,pairsOk2,List.all_eq_true,List.mem_range] at hd
  have h:=hd j hlt
  rw [hj] at h
  simp only [Bool.and_eq_true,beq_iff_eq,List.all_eq_true,List.mem_range] at h
  obtain ⟨⟨h1,h2⟩,h3⟩:=h
  refine ⟨h1,fun e he hb=>?_,fun i oi hij hi=>?_⟩
  ·have:=h2 e (by simpa using he)
   simp only [hb,Bool.not_true,Bool.false_or] at this
   simpa [Nat.blt_eq] using this
  ·have h4:=h3 i hij
   rw [hi] at h4
   simp only [Bool.or_eq_true,Bool.and_eq_true] at h4
   rcases h4 with (h4 | h4) | h4
   ·exact .inl h4
   ·exact .inr (.inl h4)
   ·exact .inr (.inr ⟨Nat.eq_of_beq_eq_true h4.1,Nat.eq_of_beq_eq_true h4.2⟩)
 have rests:∀ (listed:Array Bool),closedL ops listed→∀ (n k:Nat) ok,k≤n→ops[k]?=some ok→(∀ e∈ok.after,Region.binds .any e=true→listed.getD e.on false=true) →
   ∀ j,((masks ops.toList []).getD k 0).testBit j=true→listed.getD j false=true:=by
  intro listed hcl n
  induction n with
  | zero =>
    intro k ok hk ho hed j hj
    rw [(hall k ok ho).1] at hj
    rcases mask_foldl _ j _ _ hj with h | ⟨e,he,hb,h⟩
    ·simp at h
    ·have:=(hall k ok ho).2.1 e (by simpa using he) hb;omega
  | succ n ih =>
    intro k ok hk ho hed j hj
    rw [(hall k ok ho).1] at hj
    rcases mask_foldl _ j _ _ hj with h | ⟨e,he,hb,h⟩
    ·simp at h
    ·have he':e∈ok.after:=by simpa using he
     have hlt:=(hall k ok ho).2.1 e he' hb
     have hon:=hed e he' hb
     rcases h with h | rfl
     ·have hks:=(Array.getElem?_eq_some_iff.1 ho).1
      have hoe:ops[e.on]?=some ops[e.on]:=Array.getElem?_eq_getElem (by omega)
      have hont:listed.getD e.on true=true:=by
       rcases Nat.lt_or_ge e.on listed.size with h' | h'
       ·simp [Array.getD_eq_getD_getElem?,h'] at hon ⊢;exact hon
       ·simp [Array.getD_eq_getD_getElem?,h'] at hon
      exact ih e.on _ (by omega) hoe (hcl e.on _ hoe hont) j h
     ·exact hon
 have hmemO:∀ (O:List Nat) (listed:Array Bool) (i:Nat),i∈remO O listed↔i∈O∧listed.getD i true=false:=fun O listed i=>by
  simp [remO]
 have hempty:∀ (O:List Nat) (listed:Array Bool),(∀ i,i∈O↔i<ops.size)→remO (List.range ops.size) listed=[]→remO O listed=[]:=fun O listed hO h=>by
  rw [List.eq_nil_iff_forall_not_mem]
  intro i hi
  have:=(hmemO _ _ _).1 hi
  have h2:i∈remO (List.range ops.size) listed:=(hmemO _ _ _).2 ⟨List.mem_range.2 ((hO i).1 this.1),this.2⟩
  rw [h] at h2;simp at h2
 have hfin:∀ (listed:Array Bool) (s:St),remO (List.range ops.size) listed=[] →
   ((runI P C lo ops an (remO (List.range ops.size) listed) s=some s1∧runI P C lo ops an (remO (swapO ops.size p (p+1)) listed) s=some s2∧listed.getD p true=false∧listed.getD (p+1) true=false) ∨
     (runI P C lo ops an (remO (List.range ops.size) listed) s=some s1∧listed.getD p true=true)∨(runI P C lo ops an (remO (swapO ops.size p (p+1)) listed) s=some s2∧listed.getD (p+1) true=true))→s=s1∨s=s2:=fun listed s h hinv=>by
  have h2:=hempty _ listed (swapO_mem hq) h
  rw [h,h2] at hinv
  simp only [runI,Option.some.injEq] at hinv
  rcases hinv with h | h | h
  ·exact .inl h.1
  ·exact .inl h.1
  ·exact .inr h.1
 have front:∀ (O:List Nat) (R:Nat→Nat→Prop),O.Pairwise R→O.Nodup→(∀ i,i∈O↔i<ops.size)→∀ (listed:Array Bool) (s s':St) (i:Nat) (oi:Oper),closedL ops listed→ops[i]?=some oi→listed.getD i true=false →
   (∀ e∈oi.after,Region.binds .any e=true→listed.getD e.on false=true)→(∀ j,R j i→listed.getD j true=false→j<i∧¬ (j=p∧i=p+1))→runI P C lo ops an (remO O listed) s=some s' →
   ∃ s3,stepA P C lo ops oi (an.getD i {}) s=some s3∧runI P C lo ops an (remO O (listed.setIfInBounds i true)) s3=some s':=by
  intro O R hP hN hM listed s s' i oi hcl hoi h1 hed hR hrun
  have hlt:=(Array.getElem?_eq_some_iff.1 hoi).1
  obtain ⟨s3,q1,q2⟩:=run_frontR hoi (R:=R) (remO O listed) s (hP.filter _) ((hmemO _ _ _).2 ⟨(hM i).2 hlt,h1⟩) (fun j hj hji oj hoj=>by
   have hun:=((hmemO _ _ _).1 hj).2
   obtain ⟨hjl,hne⟩:=hR j hji hun
   rcases (hall i oi hoi).2.2 j oj hjl hoj with h | h | h
   ·have:=rests listed hcl i i oi (Nat.le_refl _) hoi hed j h
    rcases Nat.lt_or_ge j listed.size with h' | h'
    ·simp [Array.getD_eq_getD_getElem?,h'] at hun this;rw [this] at hun;simp at hun
    ·simp [Array.getD_eq_getD_getElem?,h'] at hun
   ·exact h
   ·exact absurd h hne) hrun
  exact ⟨s3,q1,by rw [remO_set hN];exact q2⟩
 intro fuel
 induction fuel with
 | zero =>
   intro listed s a w ω κ S hfuel hcl hinv hA hQ
   have hnil:remO (List.range ops.size) listed=[]:=List.length_eq_zero_iff.1 (by omega)
   refine ⟨?_,hQ s (hfin listed s hnil hinv) a w (Step.here hA)⟩
   rw [List.eq_nil_iff_forall_not_mem]
   intro i hi
   obtain ⟨h1,o,ho,_⟩:=mem_ready.1 hi
   have:i∈remO (List.range ops.size) listed:=(hmemO _ _ _).2 ⟨List.mem_range.2 (Array.getElem?_eq_some_iff.1 ho).1,by simp [h1]⟩
   rw [hnil] at this;simp at this
 | succ fuel ih =>
   intro listed s a w ω κ S hfuel hcl hinv hA hQ
   refine ⟨fun hr=>?_,fun i hi=>?_⟩
   ·have hnil:remO (List.range ops.size) listed=[]:=by
     rw [List.eq_nil_iff_forall_not_mem]
     intro i
     induction i using Nat.strongRecOn with
     | _ i ihi =>
       intro hi
       obtain ⟨hlt,hun⟩:=(hmemO _ _ _).1 hi
       have hlt:=List.mem_range.1 hlt
       have ho:ops[i]?=some ops[i]:=Array.getElem?_eq_getElem hlt
       have:i∈Region.ready .any ops listed:=mem_ready.2 ⟨by simpa using hun,_,ho,fun e he hb=>by
        have hlt':=(hall i _ ho).2.1 e he hb
        have hnot:=ihi e.on hlt'
        have hl:listed.getD e.on true=true:=by
         cases hx:listed.getD e.on true with
         | true=>rfl
         | false=>exact absurd ((hmemO _ _ _).2 ⟨List.mem_range.2 (by omega),hx⟩) hnot
        rcases Nat.lt_or_ge e.on listed.size with h' | h'
        ·simp [Array.getD_eq_getD_getElem?,h'] at hl ⊢;exact hl
        ·rcases Nat.lt_or_ge i listed.size with h'' | h''
         ·omega
         ·simp [Array.getD_eq_getD_getElem?,h''] at hun⟩
       rw [hr] at this;simp at this
    exact hQ s (hfin listed s hnil hinv) a w (Step.here hA)
   ·obtain ⟨h1,oi,hoi,hed⟩:=mem_ready.1 hi
    have hlt:=(Array.getElem?_eq_some_iff.1 hoi).1
    have h1':listed.getD i true=false:=by simpa using h1
    have hmem:i∈remO (List.range ops.size) listed:=(hmemO _ _ _).2 ⟨List.mem_range.2 hlt,h1'⟩
    have hO1:∀ i,i∈List.range ops.size↔i<ops.size:=fun i=>List.mem_range
    have hsz:i<listed.size:=by
     rcases Nat.lt_or_ge i listed.size with h' | h'
     ·exact h'
     ·simp [Array.getD_eq_getD_getElem?,h'] at h1'
    have hself:(listed.setIfInBounds i true).getD i true=true:=by
     simp [Array.getD_eq_getD_getElem?,hsz]
    have hne:∀ k,k≠i→(listed.setIfInBounds i true).getD k true=listed.getD k true:=fun k hk=>by
     simp only [Array.getD_eq_getD_getElem?]
     rw [Array.getElem?_setIfInBounds_ne (Ne.symm hk)]
    obtain ⟨s3,q1,hinv3⟩:∃ s3,stepA P C lo ops oi (an.getD i {}) s=some s3 ∧
      ((runI P C lo ops an (remO (List.range ops.size) (listed.setIfInBounds i true)) s3=some s1∧runI P C lo ops an (remO (swapO ops.size p (p+1)) (listed.setIfInBounds i true)) s3=some s2∧(listed.setIfInBounds i true).getD p true=false∧(listed.setIfInBounds i true).getD (p+1) true=false) ∨
        (runI P C lo ops an (remO (List.range ops.size) (listed.setIfInBounds i true)) s3=some s1∧(listed.setIfInBounds i true).getD p true=true)∨(runI P C lo ops an (remO (swapO ops.size p (p+1)) (listed.setIfInBounds i true)) s3=some s2∧(listed.setIfInBounds i true).getD (p+1) true=true)):=by
     rcases hinv with ⟨g1,g2,g3,g4⟩ | ⟨g1,g2⟩ | ⟨g1,g2⟩
     ·by_cases hip:i=p
      ·obtain ⟨s3,k1,k2⟩:=front _ _ List.pairwise_lt_range List.nodup_range hO1 listed s s1 i oi hcl hoi h1' hed (fun j hj _=>⟨hj,by omega⟩) g1
       exact ⟨s3,k1,.inr (.inl ⟨k2,by rw [←hip];exact hself⟩)⟩
      ·by_cases hiq:i=p+1
       ·obtain ⟨s3,k1,k2⟩:=front _ _ (swapO_pair hq) (swapO_nodup hq) (swapO_mem hq) listed s s2 i oi hcl hoi h1' hed (fun j hj _=>by unfold R2 at hj;omega) g2
        exact ⟨s3,k1,.inr (.inr ⟨k2,by rw [←hiq];exact hself⟩)⟩
       ·obtain ⟨s3,k1,k2⟩:=front _ _ List.pairwise_lt_range List.nodup_range hO1 listed s s1 i oi hcl hoi h1' hed (fun j hj _=>⟨hj,by omega⟩) g1
        obtain ⟨s4,k3,k4⟩:=front _ _ (swapO_pair hq) (swapO_nodup hq) (swapO_mem hq) listed s s2 i oi hcl hoi h1' hed (fun j hj _=>by unfold R2 at hj;omega) g2
        rw [k1] at k3;cases k3
        exact ⟨s3,k1,.inl ⟨k2,k4,by rw [hne _ (Ne.symm hip)];exact g3,by rw [hne _ (Ne.symm hiq)];exact g4⟩⟩
     ·obtain ⟨s3,k1,k2⟩:=front _ _ List.pairwise_lt_range List.nodup_range hO1 listed s s1 i oi hcl hoi h1' hed (fun j hj hun=>⟨hj,fun e=>by rw [e.1,g2] at hun;simp at hun⟩) g1
      refine ⟨s3,k1,.inr (.inl ⟨k2,?_⟩)⟩
      by_cases hip:p=i
      ·rw [hip];exact hself
      ·rw [hne _ hip];exact g2
     ·obtain ⟨s3,k1,k2⟩:=front _ _ (swapO_pair hq) (swapO_nodup hq) (swapO_mem hq) listed s s2 i oi hcl hoi h1' hed (fun j hj hun=>by
       unfold R2 at hj
       rcases hj with hj | ⟨rfl,_⟩
       ·exact hj
       ·rw [g2] at hun;simp at hun) g1
      refine ⟨s3,k1,.inr (.inr ⟨k2,?_⟩)⟩
      by_cases hiq:p+1=i
      ·rw [hiq];exact hself
      ·rw [hne _ hiq];exact g2
    refine stepA_sim hF hC hoi q1 hA fun a' w' hs=>?_
    obtain ⟨ω1,κ1,S1,k1,k2,hA1⟩:=hs
    refine ih (listed.setIfInBounds i true) s3 a' w' ω1 κ1 S1 ?_ ?_ hinv3 hA1 fun s' hs' a'' w'' hs2=>hQ s' hs' a'' w'' (hs2.trans k1 k2)
    ·rw [remO_set List.nodup_range,List.length_erase_of_mem hmem];omega
    ·intro k ok hk hl e he hb
     by_cases hki:k=i
     ·subst hki
      rw [hoi] at hk;cases hk
      exact getD_set_true (hed e he hb)
     ·have:listed.getD k true=true:=by rw [getD_set_ne true (Ne.symm hki)] at hl;exact hl
      exact getD_set_true (hcl k ok hk this e he hb)
theorem region_sim2 {F:Fence} (hF:Fen F) (hm:P.follows .mixedOrders=true) {C:CallFn} (hC:CSound P C) {lo id:Nat} {ops:Array Oper} {an:List OpAnn} {p:Nat} (hq:p+1<ops.size) (hd:drawOk2 ops an p (p+1)=true) {Q:Exit→Act→World→Prop} {s s1 s2:St} {a:Act}
  (h1:runI P C lo ops an (List.range ops.size) s=some s1) (h2:runI P C lo ops an (swapO ops.size p (p+1)) s=some s2) (hA:ARel B N ω κ S w s a) (hQ:∀ s',s'=s1∨s'=s2→∀ a' w',Step B N ω κ S w s' a' w'→Q .normal a' w'):(Code.region id ops true).wpIn F 0 P Q a w:=by
 refine wpIn_region_any hm ?_
 have hw:HRel B ω κ S w.drew s.H:=hrel_drew hA.H
 have ev:=drew_ev ω S w
 have hA':ARel B N ω κ S w.drew s a:=⟨⟨hA.T.len,fun i u v hu hv=>(hA.T.rel i u v hu hv).mono (Ext.refl κ) ev.set,fun i u v hu hv=>(hA.T.own i u v hu hv).mono (Ext.refl κ) ev.set fun b hb=>⟨hb,rfl,fun _ h=>h⟩⟩,hw,hA.M.ev ev⟩
 have hun:∀ i,i<ops.size→(Array.replicate ops.size false).getD i true=false:=fun i hi=>by simp [Array.getD_eq_getD_getElem?,hi]
 have hrem:∀ O:List Nat,(∀ i,i∈O↔i<ops.size)→remO O (Array.replicate ops.size false)=O:=fun O hO=>by
  simp only [remO]
  rw [List.filter_eq_self]
  intro i hi
  rw [hun i ((hO i).1 hi)];rfl
 have hO1:∀ i,i∈List.range ops.size↔i<ops.size:=fun i=>List.mem_range
 refine any_sim2 hF hC hq hd (s1:=s1) (s2:=s2) (lo:=lo) ops.size (Array.replicate ops.size false) s a w.drew ω κ S (by rw [hrem _ hO1];simp) ?_ (.inl ⟨by rw [hrem _ hO1];exact h1,by rw [hrem _ (swapO_mem hq)];exact h2,hun _ (by omega),hun _ hq⟩) hA' fun s' hs' a' w' hs=>hQ s' hs' a' w' (hs.trans (Ext.refl κ) ev)
 intro k o ho hl
 have hlt:=(Array.getElem?_eq_some_iff.1 ho).1
 rw [hun k hlt] at hl;cases hl
theorem pure_fnS {k : Nat} {f : Func} {c : Code} (hf : P.funcs[k]? = some f) (hb : f.body = some c) (hn : f.name ≠ "runtime.NumGoroutine")
  {args:List AV} {v:AV} (hp:pureD 8 v=true) {K:Ex→St→Prop}
  (hs:∀ (Q:Exit→Act→World→Prop) (B N:Nat) (κ:List Nat) (w:World) (ω:Nat→Option Lab) (S:Nat→Nat→Prop) (a:Act),(∀ l a w,¬ Q (.goto l) a w)→ARel B N ω κ S w ⟨args++List.replicate (f.ntmps-args.length) .junk,[]⟩ a →
   (∀ e s',K e s'→∀ a' w',Step B N ω κ S w s' a' w'→Q (toExit e) a' w')→c.wpIn Fence.wide 0 P Q a w)
  (hK:∀ e s,K e s→(e=.normal∨e=.ret)∧∃ vs r,readResults P s.H s.T f.results.toList=some vs∧frz s.H 0 s.H.length 0 8 (packResults vs)=some r∧(r=v∨r.settle=v)):PureOk P k args v:=by
 refine ⟨⟨Low.refl _ _,⟨f,hf,by simp [hb],hn⟩,fun B ω κ S w xs hH _ hv=>?_⟩,hp⟩
 refine callsIn_of_wp_marks hf hb trivial ?_
 have hA:=start_rel hH hv f.ntmps
 have ev0:=(toSlots_rel hH).1
 refine hs _ B w.heap.size κ w (toSlots ω) S _ (fun l a w hg=>hg.elim) hA fun e s hk a' w' hs=>?_
 obtain ⟨he,vs,r,hr,hfz,hset⟩:=hK e s hk
 obtain ⟨ω1,κ1,S1,k1,k2,hA1⟩:=hs
 have hleave:LeavesInM Fence.wide 0 P f a'.tmps (FnPost B ω κ S w [] v) a'.defers .returning w':=by
  refine leaves_marks (ω:=ω1) (S:=S1) (κ:=κ1) (B:=B) (H:=s.H) (ω0:=ω) (S0:=S) (w0:=w) a'.defers w' hA1.M.2.1 hA1.M.2.2 (ev0.trans k2) hA1.H fun w2 j1 j2 j3 j4=>?_
  have hT:VRel .slot ω1 κ1 S1 w2 s.T a'.tmps.toList:=⟨hA1.T.len,fun i u v hu hv=>(hA1.T.rel i u v hu hv).mono (Ext.refl _) (fun b o h=>⟨h,j2 b o h⟩),fun i u v hu hv =>
   (hA1.T.own i u v hu hv).mono (Ext.refl _) (fun b o h=>⟨h,j2 b o h⟩) fun b hb=>⟨hb,j1 b _ hb,fun _ h=>h⟩⟩
  obtain ⟨x,q1,q2⟩:=results_sim j4 hT hr
  have hpost:=post_frz hH (fun id hid=>by simp at hid) hfz (Post.after k1 j3 q2)
  refine ⟨x,q1,?_⟩
  rcases hset with rfl | hset
  ·exact hpost
  ·cases r with
   | lst cells len cp =>
     cases cp with
     | uniq z=>simp only [AV.settle] at hset;subst hset;exact hpost.settle
     | _=>simp only [AV.settle] at hset;subst hset;exact hpost
   | _=>simp only [AV.settle] at hset;subst hset;exact hpost
 rcases he with rfl | rfl
 ·exact hleave
 ·exact hleave
end
theorem noneS (P:Program):CSound P (fun _ _ _ _=>none):=⟨fun h=>by simp at h,fun h=>by simp at h⟩
noncomputable def outOf (f:Func):Option (Ex×St)→Option AV
 | some (.normal,s) | some (.ret,s)=>(readResults Go.Proofs.Tryz.prog s.H s.T f.results.toList).bind fun vs=>frz s.H 0 s.H.length 0 8 (packResults vs)
 | _=>none
theorem outOf_ok {f:Func} {x:Option (Ex×St)} {v:AV} (h:outOf f x=some v):∃ e s,x=some (e,s)∧(e=.normal∨e=.ret)∧∃ vs,readResults Go.Proofs.Tryz.prog s.H s.T f.results.toList=some vs∧frz s.H 0 s.H.length 0 8 (packResults vs)=some v:=by
 unfold outOf at h
 split at h
 ·simp only [Option.bind_eq_some_iff] at h
  obtain ⟨vs,h1,h2⟩:=h
  exact ⟨_,_,rfl,.inl rfl,vs,h1,h2⟩
 ·simp only [Option.bind_eq_some_iff] at h
  obtain ⟨vs,h1,h2⟩:=h
  exact ⟨_,_,rfl,.inr rfl,vs,h1,h2⟩
 ·cases h
noncomputable def runTwo (k p:Nat) (args:List AV):Option AV:=match Go.Proofs.Tryz.prog.funcs[k]? with
 | some f=>match f.body with
   | some (.seq r0 (.seq (.region id ops true) rest)) =>
     match codeOk (ann k) r0, codeOk (ann k) rest, f.name == "runtime.NumGoroutine", Nat.blt (p + 1) ops.size, drawOk2 ops ((ann k).ops.getD id []) p (p + 1) with
     | true,true,false,true,true =>
       match exec Go.Proofs.Tryz.prog (ann k) (fun _ _ _ _=>none) k 0 9 none r0 0 ⟨args++List.replicate (f.ntmps-args.length) .junk,[]⟩ with
       | some (.normal,s0) =>
         match runI Go.Proofs.Tryz.prog (fun _ _ _ _=>none) 0 ops ((ann k).ops.getD id []) (List.range ops.size) s0,runI Go.Proofs.Tryz.prog (fun _ _ _ _=>none) 0 ops ((ann k).ops.getD id []) (swapO ops.size p (p+1)) s0 with
         | some s1,some s2 =>
           match outOf f (exec Go.Proofs.Tryz.prog (ann k) (fun _ _ _ _=>none) k 0 9 none rest 0 s1),outOf f (exec Go.Proofs.Tryz.prog (ann k) (fun _ _ _ _=>none) k 0 9 none rest 0 s2) with
           | some u,some v=>match avEq 20 u v,pureD 8 u with
             | true,true=>some u
             | _,_=>none
           | _,_=>none
         | _,_=>none
       | _=>none
     | _,_,_,_,_=>none
   | _=>none
 | none=>none
theorem runTwo_ok {k p:Nat} {args:List AV} {v:AV} (h:runTwo k p args=some v):PureOk Go.Proofs.Tryz.prog k args v:=by
 unfold runTwo at h
 split at h
 ·rename_i f hf
  split at h
  ·rename_i r0 id ops rest hb
   split at h
   ·rename_i c1 c2 c3 c4 c5
    split at h
    ·rename_i s0 hx0
     split at h
     ·rename_i s1 s2 hr1 hr2
      split at h
      ·rename_i u v' ho1 ho2
       split at h
       ·rename_i heq hp
        have e:=avEq_ok 20 _ _ heq
        subst e
        cases h
        obtain ⟨e1,t1,hx1,he1,vs1,hv1,hf1⟩:=outOf_ok ho1
        obtain ⟨e2,t2,hx2,he2,vs2,hv2,hf2⟩:=outOf_ok ho2
        refine pure_fnS hf hb (by simpa using c3) hp (K:=fun e s=>(e=e1∧s=t1)∨(e=e2∧s=t2)) (fun Q B N κ w ω S a hg hA hQ=>?_) (fun e s hk=>?_)
        ·have hmx:=hmix
         refine wpIn_seq (exec_sim (noneS _) hmx r0 0 _ _ _ hx0 c1 Fence.wide _ B N κ w ω S a (.inl ⟨rfl,rfl⟩) (fun l a w=>hg l a w) hA fun a' w' hs=>?_)
         obtain ⟨ω1,κ1,S1,k1,k2,hA1⟩:=hs
         refine wpIn_seq (region_sim2 (FenR.fen (κ:=κ1) (rl:=none) (.inl ⟨rfl,rfl⟩)) hmx (noneS _) (by simpa [Nat.blt_eq] using c4) c5 hr1 hr2 hA1 fun s' hs' a2 w2 hs2=>?_)
         obtain ⟨ω2,κ2,S2,k3,k4,hA2⟩:=hs2
         rcases hs' with rfl | rfl
         ·exact exec_sim (noneS _) hmx rest 0 _ _ _ hx1 c2 Fence.wide Q B N κ2 w2 ω2 S2 a2 (.inl ⟨rfl,rfl⟩) hg hA2 fun a3 w3 hs3=>hQ _ _ (.inl ⟨rfl,rfl⟩) a3 w3 ((hs3.trans k3 k4).trans k1 k2)
         ·exact exec_sim (noneS _) hmx rest 0 _ _ _ hx2 c2 Fence.wide Q B N κ2 w2 ω2 S2 a2 (.inl ⟨rfl,rfl⟩) hg hA2 fun a3 w3 hs3=>hQ _ _ (.inr ⟨rfl,rfl⟩) a3 w3 ((hs3.trans k3 k4).trans k1 k2)
        ·rcases hk with ⟨rfl,rfl⟩ | ⟨rfl,rfl⟩
         ·exact ⟨he1,vs1,_,hv1,hf1,.inl rfl⟩
         ·exact ⟨he2,vs2,_,hv2,hf2,.inl rfl⟩
       ·cases h
      ·cases h
     ·cases h
    ·cases h
   ·cases h
  ·cases h
 ·cases h
end Go.Proofs.YtfakoboiahbhaaaGreat.Ab


namespace Go.Proofs.YtfakoboiahbhaaaGreat.Ab
open Go
def ta00:Ent:=.pure 100 [.lptr [.int .i64 4,.lst [.int .i64 0,.int .i64 1,.int .i64 1,.int .i64 2,.int .i64 2,.int .i64 0,.int .i64 2,.int .i64 3] 4 .shared],.int .i64 0,.int .i64 0] (.bool true)
theorem ta00_ok:entOk Go.Proofs.Tryz.prog ta00:=runTwo_ok (p:=16) (by kernel_rfl)
def ta01:Ent:=.pure 100 [.lptr [.int .i64 4,.lst [.int .i64 0,.int .i64 1,.int .i64 1,.int .i64 2,.int .i64 2,.int .i64 0,.int .i64 2,.int .i64 3] 4 .shared],.int .i64 0,.int .i64 1] (.bool true)
theorem ta01_ok:entOk Go.Proofs.Tryz.prog ta01:=runTwo_ok (p:=16) (by kernel_rfl)
def ta02:Ent:=.pure 100 [.lptr [.int .i64 4,.lst [.int .i64 0,.int .i64 1,.int .i64 1,.int .i64 2,.int .i64 2,.int .i64 0,.int .i64 2,.int .i64 3] 4 .shared],.int .i64 0,.int .i64 2] (.bool true)
theorem ta02_ok:entOk Go.Proofs.Tryz.prog ta02:=runTwo_ok (p:=16) (by kernel_rfl)
def ta03:Ent:=.pure 100 [.lptr [.int .i64 4,.lst [.int .i64 0,.int .i64 1,.int .i64 1,.int .i64 2,.int .i64 2,.int .i64 0,.int .i64 2,.int .i64 3] 4 .shared],.int .i64 0,.int .i64 3] (.bool false)
theorem ta03_ok:entOk Go.Proofs.Tryz.prog ta03:=runTwo_ok (p:=16) (by kernel_rfl)
def ta10:Ent:=.pure 100 [.lptr [.int .i64 4,.lst [.int .i64 0,.int .i64 1,.int .i64 1,.int .i64 2,.int .i64 2,.int .i64 0,.int .i64 2,.int .i64 3] 4 .shared],.int .i64 1,.int .i64 0] (.bool true)
theorem ta10_ok:entOk Go.Proofs.Tryz.prog ta10:=runTwo_ok (p:=16) (by kernel_rfl)
def ta11:Ent:=.pure 100 [.lptr [.int .i64 4,.lst [.int .i64 0,.int .i64 1,.int .i64 1,.int .i64 2,.int .i64 2,.int .i64 0,.int .i64 2,.int .i64 3] 4 .shared],.int .i64 1,.int .i64 1] (.bool true)
theorem ta11_ok:entOk Go.Proofs.Tryz.prog ta11:=runTwo_ok (p:=16) (by kernel_rfl)
def ta12:Ent:=.pure 100 [.lptr [.int .i64 4,.lst [.int .i64 0,.int .i64 1,.int .i64 1,.int .i64 2,.int .i64 2,.int .i64 0,.int .i64 2,.int .i64 3] 4 .shared],.int .i64 1,.int .i64 2] (.bool true)
theorem ta12_ok:entOk Go.Proofs.Tryz.prog ta12:=runTwo_ok (p:=16) (by kernel_rfl)
def ta13:Ent:=.pure 100 [.lptr [.int .i64 4,.lst [.int .i64 0,.int .i64 1,.int .i64 1,.int .i64 2,.int .i64 2,.int .i64 0,.int .i64 2,.int .i64 3] 4 .shared],.int .i64 1,.int .i64 3] (.bool true)
theorem ta13_ok:entOk Go.Proofs.Tryz.prog ta13:=runTwo_ok (p:=16) (by kernel_rfl)
def ta20:Ent:=.pure 100 [.lptr [.int .i64 4,.lst [.int .i64 0,.int .i64 1,.int .i64 1,.int .i64 2,.int .i64 2,.int .i64 0,.int .i64 2,.int .i64 3] 4 .shared],.int .i64 2,.int .i64 0] (.bool true)
theorem ta20_ok:entOk Go.Proofs.Tryz.prog ta20:=runTwo_ok (p:=16) (by kernel_rfl)
def ta21:Ent:=.pure 100 [.lptr [.int .i64 4,.lst [.int .i64 0,.int .i64 1,.int .i64 1,.int .i64 2,.int .i64 2,.int .i64 0,.int .i64 2,.int .i64 3] 4 .shared],.int .i64 2,.int .i64 1] (.bool true)
theorem ta21_ok:entOk Go.Proofs.Tryz.prog ta21:=runTwo_ok (p:=16) (by kernel_rfl)
def ta22:Ent:=.pure 100 [.lptr [.int .i64 4,.lst [.int .i64 0,.int .i64 1,.int .i64 1,.int .i64 2,.int .i64 2,.int .i64 0,.int .i64 2,.int .i64 3] 4 .shared],.int .i64 2,.int .i64 2] (.bool true)
theorem ta22_ok:entOk Go.Proofs.Tryz.prog ta22:=runTwo_ok (p:=16) (by kernel_rfl)
def ta23:Ent:=.pure 100 [.lptr [.int .i64 4,.lst [.int .i64 0,.int .i64 1,.int .i64 1,.int .i64 2,.int .i64 2,.int .i64 0,.int .i64 2,.int .i64 3] 4 .shared],.int .i64 2,.int .i64 3] (.bool true)
theorem ta23_ok:entOk Go.Proofs.Tryz.prog ta23:=runTwo_ok (p:=16) (by kernel_rfl)
def ta30:Ent:=.pure 100 [.lptr [.int .i64 4,.lst [.int .i64 0,.int .i64 1,.int .i64 1,.int .i64 2,.int .i64 2,.int .i64 0,.int .i64 2,.int .i64 3] 4 .shared],.int .i64 3,.int .i64 0] (.bool false)
theorem ta30_ok:entOk Go.Proofs.Tryz.prog ta30:=runTwo_ok (p:=16) (by kernel_rfl)
def ta31:Ent:=.pure 100 [.lptr [.int .i64 4,.lst [.int .i64 0,.int .i64 1,.int .i64 1,.int .i64 2,.int .i64 2,.int .i64 0,.int .i64 2,.int .i64 3] 4 .shared],.int .i64 3,.int .i64 1] (.bool true)
theorem ta31_ok:entOk Go.Proofs.Tryz.prog ta31:=runTwo_ok (p:=16) (by kernel_rfl)
def ta32:Ent:=.pure 100 [.lptr [.int .i64 4,.lst [.int .i64 0,.int .i64 1,.int .i64 1,.int .i64 2,.int .i64 2,.int .i64 0,.int .i64 2,.int .i64 3] 4 .shared],.int .i64 3,.int .i64 2] (.bool true)
theorem ta32_ok:entOk Go.Proofs.Tryz.prog ta32:=runTwo_ok (p:=16) (by kernel_rfl)
def ta33:Ent:=.pure 100 [.lptr [.int .i64 4,.lst [.int .i64 0,.int .i64 1,.int .i64 1,.int .i64 2,.int .i64 2,.int .i64 0,.int .i64 2,.int .i64 3] 4 .shared],.int .i64 3,.int .i64 3] (.bool true)
theorem ta33_ok:entOk Go.Proofs.Tryz.prog ta33:=runTwo_ok (p:=16) (by kernel_rfl)
def tb00:Ent:=.pure 100 [.lptr [.int .i64 5,.lst [.int .i64 0,.int .i64 1,.int .i64 2,.int .i64 3,.int .i64 4,.int .i64 4] 3 .shared],.int .i64 0,.int .i64 0] (.bool true)
theorem tb00_ok:entOk Go.Proofs.Tryz.prog tb00:=runTwo_ok (p:=16) (by kernel_rfl)
def tb01:Ent:=.pure 100 [.lptr [.int .i64 5,.lst [.int .i64 0,.int .i64 1,.int .i64 2,.int .i64 3,.int .i64 4,.int .i64 4] 3 .shared],.int .i64 0,.int .i64 1] (.bool false)
theorem tb01_ok:entOk Go.Proofs.Tryz.prog tb01:=runTwo_ok (p:=16) (by kernel_rfl)
def tb02:Ent:=.pure 100 [.lptr [.int .i64 5,.lst [.int .i64 0,.int .i64 1,.int .i64 2,.int .i64 3,.int .i64 4,.int .i64 4] 3 .shared],.int .i64 0,.int .i64 2] (.bool false)
theorem tb02_ok:entOk Go.Proofs.Tryz.prog tb02:=runTwo_ok (p:=16) (by kernel_rfl)
def tb10:Ent:=.pure 100 [.lptr [.int .i64 5,.lst [.int .i64 0,.int .i64 1,.int .i64 2,.int .i64 3,.int .i64 4,.int .i64 4] 3 .shared],.int .i64 1,.int .i64 0] (.bool false)
theorem tb10_ok:entOk Go.Proofs.Tryz.prog tb10:=runTwo_ok (p:=16) (by kernel_rfl)
def tb11:Ent:=.pure 100 [.lptr [.int .i64 5,.lst [.int .i64 0,.int .i64 1,.int .i64 2,.int .i64 3,.int .i64 4,.int .i64 4] 3 .shared],.int .i64 1,.int .i64 1] (.bool true)
theorem tb11_ok:entOk Go.Proofs.Tryz.prog tb11:=runTwo_ok (p:=16) (by kernel_rfl)
def tb12:Ent:=.pure 100 [.lptr [.int .i64 5,.lst [.int .i64 0,.int .i64 1,.int .i64 2,.int .i64 3,.int .i64 4,.int .i64 4] 3 .shared],.int .i64 1,.int .i64 2] (.bool false)
theorem tb12_ok:entOk Go.Proofs.Tryz.prog tb12:=runTwo_ok (p:=16) (by kernel_rfl)
def tb20:Ent:=.pure 100 [.lptr [.int .i64 5,.lst [.int .i64 0,.int .i64 1,.int .i64 2,.int .i64 3,.int .i64 4,.int .i64 4] 3 .shared],.int .i64 2,.int .i64 0] (.bool false)
theorem tb20_ok:entOk Go.Proofs.Tryz.prog tb20:=runTwo_ok (p:=16) (by kernel_rfl)
def tb21:Ent:=.pure 100 [.lptr [.int .i64 5,.lst [.int .i64 0,.int .i64 1,.int .i64 2,.int .i64 3,.int .i64 4,.int .i64 4] 3 .shared],.int .i64 2,.int .i64 1] (.bool false)
theorem tb21_ok:entOk Go.Proofs.Tryz.prog tb21:=runTwo_ok (p:=16) (by kernel_rfl)
def tb22:Ent:=.pure 100 [.lptr [.int .i64 5,.lst [.int .i64 0,.int .i64 1,.int .i64 2,.int .i64 3,.int .i64 4,.int .i64 4] 3 .shared],.int .i64 2,.int .i64 2] (.bool true)
theorem tb22_ok:entOk Go.Proofs.Tryz.prog tb22:=runTwo_ok (p:=16) (by kernel_rfl)
def tc00:Ent:=.pure 100 [.lptr [.int .i64 2,.lst [.int .i64 0,.int .i64 1,.int .i64 1,.int .i64 0] 2 .shared],.int .i64 0,.int .i64 0] (.bool true)
theorem tc00_ok:entOk Go.Proofs.Tryz.prog tc00:=runTwo_ok (p:=16) (by kernel_rfl)
def tc01:Ent:=.pure 100 [.lptr [.int .i64 2,.lst [.int .i64 0,.int .i64 1,.int .i64 1,.int .i64 0] 2 .shared],.int .i64 0,.int .i64 1] (.bool true)
theorem tc01_ok:entOk Go.Proofs.Tryz.prog tc01:=runTwo_ok (p:=16) (by kernel_rfl)
def tc10:Ent:=.pure 100 [.lptr [.int .i64 2,.lst [.int .i64 0,.int .i64 1,.int .i64 1,.int .i64 0] 2 .shared],.int .i64 1,.int .i64 0] (.bool true)
theorem tc10_ok:entOk Go.Proofs.Tryz.prog tc10:=runTwo_ok (p:=16) (by kernel_rfl)
def tc11:Ent:=.pure 100 [.lptr [.int .i64 2,.lst [.int .i64 0,.int .i64 1,.int .i64 1,.int .i64 0] 2 .shared],.int .i64 1,.int .i64 1] (.bool true)
theorem tc11_ok:entOk Go.Proofs.Tryz.prog tc11:=runTwo_ok (p:=16) (by kernel_rfl)
def touchL:List Ent:=[ta00,ta01,ta02,ta03,ta10,ta11,ta12,ta13,ta20,ta21,ta22,ta23,ta30,ta31,ta32,ta33,tb00,tb01,tb02,tb10,tb11,tb12,tb20,tb21,tb22,tc00,tc01,tc10,tc11]
theorem touchL_ok:∀ e∈touchL,entOk Go.Proofs.Tryz.prog e:=by
 simp only [touchL,List.forall_mem_cons]
 exact ⟨ta00_ok,ta01_ok,ta02_ok,ta03_ok,ta10_ok,ta11_ok,ta12_ok,ta13_ok,ta20_ok,ta21_ok,ta22_ok,ta23_ok,ta30_ok,ta31_ok,ta32_ok,ta33_ok,tb00_ok,tb01_ok,tb02_ok,tb10_ok,tb11_ok,tb12_ok,tb20_ok,tb21_ok,tb22_ok,tc00_ok,tc01_ok,tc10_ok,tc11_ok,by simp⟩
end Go.Proofs.YtfakoboiahbhaaaGreat.Ab


namespace Go.Proofs.YtfakoboiahbhaaaGreat.Ab
open Go
def w1:Ent:=.pure 18 [.agg [.int .i64 4,.lst [.int .i64 0,.int .i64 1,.int .i64 1,.int .i64 2,.int .i64 2,.int .i64 0,.int .i64 2,.int .i64 3] 4 .shared],.lst [.int .i64 0,.int .i64 0,.int .i64 1,.int .i64 0,.int .i64 3,.int .i64 0] 3 .shared] (.tuple [.int .i64 0,.int .i64 3,.int .i64 0])
theorem w1_ok:entOk Go.Proofs.Tryz.prog w1:=runC_ok touchL_ok (by kernel_rfl)
def w2:Ent:=.pure 18 [.agg [.int .i64 4,.lst [.int .i64 0,.int .i64 1,.int .i64 1,.int .i64 2,.int .i64 2,.int .i64 0,.int .i64 2,.int .i64 3] 4 .shared],.lst [.int .i64 0,.int .i64 0,.int .i64 1,.int .i64 0,.int .i64 2,.int .i64 0,.int .i64 0,.int .i64 0] 4 .shared] (.tuple [.int .i64 0,.int .i64 0,.int .i64 11])
theorem w2_ok:entOk Go.Proofs.Tryz.prog w2:=runC_ok touchL_ok (by kernel_rfl)
def w3:Ent:=.pure 18 [.agg [.int .i64 4,.lst [.int .i64 0,.int .i64 1,.int .i64 1,.int .i64 2,.int .i64 2,.int .i64 0,.int .i64 2,.int .i64 3] 4 .shared],.lst [.int .i64 0,.int .i64 0,.int .i64 2,.int .i64 0] 2 .shared] (.tuple [.int .i64 0,.int .i64 0,.int .i64 27])
theorem w3_ok:entOk Go.Proofs.Tryz.prog w3:=runC_ok touchL_ok (by kernel_rfl)
def w4:Ent:=.pure 18 [.agg [.int .i64 4,.lst [.int .i64 0,.int .i64 1,.int .i64 1,.int .i64 2,.int .i64 2,.int .i64 0,.int .i64 2,.int .i64 3] 4 .shared],.lst [.int .i64 0,.int .i64 0,.int .i64 4,.int .i64 0] 2 .shared] (.tuple [.int .i64 0,.int .i64 0,.int .i64 3])
theorem w4_ok:entOk Go.Proofs.Tryz.prog w4:=runC_ok touchL_ok (by kernel_rfl)
def w5:Ent:=.pure 18 [.agg [.int .i64 4,.lst [.int .i64 0,.int .i64 1,.int .i64 1,.int .i64 2,.int .i64 2,.int .i64 0,.int .i64 2,.int .i64 3] 4 .shared],.lst [] 0 .shared] (.tuple [.int .i64 0,.int .i64 0,.int .i64 6])
theorem w5_ok:entOk Go.Proofs.Tryz.prog w5:=runC_ok touchL_ok (by kernel_rfl)
def w6:Ent:=.pure 25 [.agg [.int .i64 4,.lst [.int .i64 0,.int .i64 1,.int .i64 1,.int .i64 2,.int .i64 2,.int .i64 0,.int .i64 2,.int .i64 3] 4 .shared],.lst [.lst [.int .i64 0,.int .i64 0,.int .i64 1,.int .i64 0,.int .i64 3,.int .i64 0] 3 .shared,.lst [.int .i64 2,.int .i64 0] 1 .shared] 2 .shared] (.tuple [.int .i64 2,.int .i64 0])
theorem w6_ok:entOk Go.Proofs.Tryz.prog w6:=runC_ok touchL_ok (by kernel_rfl)
def w7:Ent:=.pure 25 [.agg [.int .i64 4,.lst [.int .i64 0,.int .i64 1,.int .i64 1,.int .i64 2,.int .i64 2,.int .i64 0,.int .i64 2,.int .i64 3] 4 .shared],.lst [.lst [.int .i64 0,.int .i64 0,.int .i64 1,.int .i64 0,.int .i64 3,.int .i64 0] 3 .shared] 1 .shared] (.tuple [.int .i64 0,.int .i64 15])
theorem w7_ok:entOk Go.Proofs.Tryz.prog w7:=runC_ok touchL_ok (by kernel_rfl)
def w8:Ent:=.pure 25 [.agg [.int .i64 4,.lst [.int .i64 0,.int .i64 1,.int .i64 1,.int .i64 2,.int .i64 2,.int .i64 0,.int .i64 2,.int .i64 3] 4 .shared],.lst [.lst [.int .i64 0,.int .i64 0,.int .i64 1,.int .i64 0,.int .i64 3,.int .i64 0] 3 .shared,.lst [.int .i64 2,.int .i64 0,.int .i64 0,.int .i64 0] 2 .shared] 2 .shared] (.tuple [.int .i64 0,.int .i64 11])
theorem w8_ok:entOk Go.Proofs.Tryz.prog w8:=runC_ok touchL_ok (by kernel_rfl)
def w9:Ent:=.pure 22 [.agg [.int .i64 2,.lst [.int .i64 0,.int .i64 1,.int .i64 1,.int .i64 0] 2 .shared],.lst [.int .i64 0,.int .i64 0,.int .i64 1,.int .i64 0] 2 .shared] (.int .i64 0)
theorem w9_ok:entOk Go.Proofs.Tryz.prog w9:=runC_ok touchL_ok (by kernel_rfl)
def w10:Ent:=.pure 22 [.agg [.int .i64 2,.lst [.int .i64 0,.int .i64 1,.int .i64 1,.int .i64 0] 2 .shared],.lst [.int .i64 0,.int .i64 0] 1 .shared] (.int .i64 15)
theorem w10_ok:entOk Go.Proofs.Tryz.prog w10:=runC_ok touchL_ok (by kernel_rfl)
def w11:Ent:=.pure 27 [.agg [.int .i64 4,.lst [.int .i64 0,.int .i64 1,.int .i64 1,.int .i64 2,.int .i64 2,.int .i64 0,.int .i64 2,.int .i64 3] 4 .shared]] (.tuple [.lst [.int .i64 2,.int .i64 3] 2 .full,.int .i64 0])
theorem w11_ok:entOk Go.Proofs.Tryz.prog w11:=runC_ok touchL_ok (by kernel_rfl)
def w12:Ent:=.pure 29 [.agg [.int .i64 5,.lst [.int .i64 0,.int .i64 1,.int .i64 2,.int .i64 3,.int .i64 4,.int .i64 4] 3 .shared]] (.tuple [.lst [.lst [.int .i64 0] 1 .shared,.lst [.int .i64 1] 1 .shared,.lst [.int .i64 2] 1 .shared] 3 .shared,.int .i64 0])
theorem w12_ok:entOk Go.Proofs.Tryz.prog w12:=runC_ok touchL_ok (by kernel_rfl)
def w13:Ent:=.pure 35 [.agg [.int .i64 5,.lst [.int .i64 0,.int .i64 1,.int .i64 2,.int .i64 3,.int .i64 4,.int .i64 4] 3 .shared]] (.tuple [.int .i64 3,.int .i64 0])
theorem w13_ok:entOk Go.Proofs.Tryz.prog w13:=runC_ok touchL_ok (by kernel_rfl)
def w14:Ent:=.pure 41 [.agg [.int .i64 5,.lst [.int .i64 0,.int .i64 1,.int .i64 2,.int .i64 3,.int .i64 4,.int .i64 4] 3 .shared]] (.tuple [.lst [.lst [.int .i64 0,.int .i64 0] 1 .shared,.lst [.int .i64 1,.int .i64 0] 1 .shared,.lst [.int .i64 2,.int .i64 0] 1 .shared] 3 .shared,.int .i64 0])
theorem w14_ok:entOk Go.Proofs.Tryz.prog w14:=runC_ok touchL_ok (by kernel_rfl)
def w16:Ent:=.pure 37 [.agg [.int .i64 5,.lst [.int .i64 0,.int .i64 1,.int .i64 2,.int .i64 3,.int .i64 4,.int .i64 4] 3 .shared]] (.tuple [.lst [] 0 .shared,.int .i64 27])
theorem w16_ok:entOk Go.Proofs.Tryz.prog w16:=runC_ok touchL_ok (by kernel_rfl)
def w17:Ent:=.pure 42 [.agg [.int .i64 2,.lst [.int .i64 0,.int .i64 1,.int .i64 1,.int .i64 0] 2 .shared]] (.tuple [.lst [.int .i64 0,.int .i64 0,.int .i64 1,.int .i64 0] 2 .shared,.int .i64 0])
theorem w17_ok:entOk Go.Proofs.Tryz.prog w17:=runC_ok touchL_ok (by kernel_rfl)
def w19:Ent:=.pure 39 [.agg [.int .i64 5,.lst [.int .i64 0,.int .i64 1,.int .i64 2,.int .i64 3,.int .i64 4,.int .i64 4] 3 .shared]] (.tuple [.int .i64 3,.int .i64 0])
theorem w19_ok:entOk Go.Proofs.Tryz.prog w19:=runC_ok touchL_ok (by kernel_rfl)
def w20:Ent:=.pure 31 [.agg [.int .i64 4,.lst [.int .i64 0,.int .i64 1,.int .i64 1,.int .i64 2,.int .i64 2,.int .i64 0,.int .i64 2,.int .i64 3] 4 .shared]] (.tuple [.lst [.int .i64 3] 1 .shared,.int .i64 0])
theorem w20_ok:entOk Go.Proofs.Tryz.prog w20:=runC_ok touchL_ok (by kernel_rfl)
def w21:Ent:=.pure 45 [.agg [.int .i64 4,.lst [.int .i64 0,.int .i64 1,.int .i64 1,.int .i64 2,.int .i64 2,.int .i64 0,.int .i64 2,.int .i64 3] 4 .shared],.int .i64 0,.int .i64 3] (.tuple [.lst [.int .i64 2,.int .i64 1,.int .i64 3,.int .i64 0] 2 .shared,.int .i64 0])
theorem w21_ok:entOk Go.Proofs.Tryz.prog w21:=runC_ok touchL_ok (by kernel_rfl)
def w22:Ent:=.pure 45 [.agg [.int .i64 4,.lst [.int .i64 0,.int .i64 1,.int .i64 1,.int .i64 2,.int .i64 2,.int .i64 0,.int .i64 2,.int .i64 3] 4 .shared],.int .i64 1,.int .i64 1] (.tuple [.lst [] 0 .shared,.int .i64 2])
theorem w22_ok:entOk Go.Proofs.Tryz.prog w22:=runC_ok touchL_ok (by kernel_rfl)
def w23:Ent:=.pure 45 [.agg [.int .i64 5,.lst [.int .i64 0,.int .i64 1,.int .i64 2,.int .i64 3,.int .i64 4,.int .i64 4] 3 .shared],.int .i64 0,.int .i64 2] (.tuple [.lst [] 0 .shared,.int .i64 5])
theorem w23_ok:entOk Go.Proofs.Tryz.prog w23:=runC_ok touchL_ok (by kernel_rfl)
end Go.Proofs.YtfakoboiahbhaaaGreat.Ab
