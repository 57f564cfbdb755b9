
import Derived.Test.YtbnbjjgagikobaaGreatJf1
import Derived.Test.YtbnbjjgagikobaaGreatJf3
import Derived.Test.YtbnbjjgagikobaaGreatProg
import Derived.KernelRfl
import Derived.IntWalk
import Derived.ProofKit
import Derived.Deep.Slices
import Derived.ChangeStays
import Derived.Below
import Derived.WalkKit
import Derived.Sort.AssemblyPlain
set_option linter.unusedSimpArgs false
set_option linter.unusedVariables false
set_option linter.unusedSectionVars false

namespace Go.Proofs.YtbnbjjgagikobaaGreat.Ab
open Go
abbrev o_:Bool:=false
abbrev i_:Bool:=true
abbrev t1_:OpAnn:={ takes:=[true] }
abbrev t2_:OpAnn:={ takes:=[true,true] }
def ann3:FAnn:={ ops:=[[],[],[],[],[],[{},{ mode:=3 },{},{ mode:=3 },t2_,t1_,{},{ mode:=3 },{},{ mode:=3 },t2_,{ takes:=[false,true] },t1_,t1_,t1_,{ mode:=3 },{ takes:=[false,true] },t1_,t1_,t1_,t2_,{ takes:=[false,true] },t1_,{ mode:=3 },{ takes:=[false,true] },t1_]] }
def ann7:FAnn:={ ops:=[[t1_],[{},{},{ mode:=3 },t1_,t1_,{},t1_,t1_,{ takes:=[true,false,true] }],[{ mode:=3 },t1_],[{},{},{ mode:=3 },t1_,{},{},{},t1_,t1_,t1_,t1_,t1_],[{},{},{},{},t1_,{ mode:=3 },{ mode:=3 },t1_,{},{},{},t1_,t1_,t1_],[{},{},{ mode:=3 },t1_,{},t1_,t1_,t1_],[t1_,t1_,t1_,t1_,t1_,{ takes:=[true,false,true] },t1_,{},{},t2_,{ takes:=[true,false,true] },t1_,t1_,t1_,{ takes:=[true,false,true] },t1_,{},t1_,{},t1_,t2_,{ takes:=[true,false,true] }],[],[{},{},{},{ mode:=3 },t1_,{},t1_,t1_,t1_],[{},{},t1_,{ mode:=3 },t1_,{},t1_,t1_,t1_],[],[],[{},{},t1_,t2_],[t1_,t1_,t1_],[{},{},t2_,t1_,t1_],[t1_,{},t1_,t2_,t1_],[t1_,t1_,t1_,{ mode:=3 },t1_,{},t1_,t1_,t1_],[t1_,t1_,t1_,t1_,t1_,{ takes:=[true,false,true] },t1_,t1_,{},t2_,{ takes:=[true,false,true] },t1_,t1_,{},t2_,{ takes:=[true,false,true] },t1_,{},t1_,t1_,{},t1_,t2_,{ takes:=[true,false,true] }],[],[t1_,t1_,t1_,{},t1_,t2_,t1_,t1_,t1_,t2_,t2_,{ takes:=[true,false,true] },t1_,{ mode:=3 },t2_,t1_]],keepL:=[(0,[o_,i_,o_,i_,i_,o_,o_,o_,o_,i_,o_,o_,o_,i_,o_,i_,o_,i_,i_,i_,i_,i_,o_,o_,o_,o_,o_,o_,o_,o_,o_,o_,o_,o_,o_,o_,o_,o_,o_,o_,o_,o_,o_,o_,o_,o_,o_,o_,o_,o_,o_,o_,o_,o_,o_,o_,o_,o_,o_,o_,o_,o_,o_,o_,o_,o_,o_,o_,o_,o_,o_,o_,o_,o_,o_,o_,o_,o_,o_,o_,o_,o_,o_,o_,o_,o_,o_,o_,o_,o_,o_,o_,o_,o_,o_,o_,o_,o_,o_,o_,o_,o_,o_,o_,o_,o_,o_,o_,o_,o_,o_,o_,o_,o_,o_,o_,o_,o_,o_,o_,o_,o_,o_,o_,o_,o_,o_,o_,o_,o_,o_,o_,o_,o_,o_,o_,o_,o_,o_,o_,o_,o_,o_,o_,o_,o_,o_,o_,o_,o_,o_,o_,o_,o_,o_,o_])] }
def ann8:FAnn:={ ops:=[[],[],[],[],[{},{},{},{},t1_,{ mode:=3 },{ mode:=3 },t1_,{},{},{},t1_,t1_,t1_],[],[],[],[],[],[],[t1_,{},{},t2_,t1_,t1_,t2_,t1_,{},{},t2_,t1_,t1_,t2_,t1_,t1_]] }
def ann10:FAnn:={ ops:=[[],[],[],[],[],[],[{},{},t2_,{},t1_,t2_,t1_],[],[],[],[],[],[],[],[],[],[],[t1_,t1_,{},{},t2_,{ takes:=[false,true] },t1_,{},{},t1_,{},t2_,t1_,t1_,t2_,t1_,{},t2_,t1_,t1_,t2_,t2_,{ takes:=[false,true] },t1_,{ mode:=3 },{ takes:=[false,true] },t1_]] }
def ann11:FAnn:={ ops:=[[],[],[],[],[],[],[],[],[],[],[],[],[],[{},{},t1_],[],[],[],[],[{},{},{},t2_,t1_,t1_,{},{},{},t2_,t1_,t1_,t2_,t1_,{},{},t2_,t1_,t1_,t2_,t2_,t2_]] }
def ann14:FAnn:={ ops:=[[],[],[],[],[],[],[],[],[],[],[],[],[],[],[],[{},{},t2_,t1_,{},{},t2_,t1_,t1_,{},t1_,{},t1_,{},{},t2_,t1_,t1_,{ mode:=3 },t2_,t2_,t2_,t1_,{},{},{},t2_,t1_,{ mode:=3 },t1_,{ takes:=[false,false,true] }],[],[],[],[],[],[],[],[{},{},{},t2_,t1_,{},t2_,t1_,t2_,t1_,{},{},{},t2_,t1_,t1_,t1_,t2_,t1_,t2_,t1_,{},{},{},t2_,t1_,{},t2_,t1_,t2_,t1_,{},{},{},t2_,t1_,{},t1_,t2_,t1_,t2_,t1_,t2_,{ takes:=[false,false,true] }],[],[{},t1_,t1_,{},{},{},t2_,t1_,t1_,t1_,t2_,t1_,{},{},{},t1_,t2_,t1_,t1_,t1_,t2_,t1_,t2_,{ takes:=[false,true] }]] }
def ann15:FAnn:={ ops:=[[],[],[{},{},{},{ mode:=3 },{ mode:=3 },t1_,{},{},t1_,t1_]] }
def ann16:FAnn:={ ops:=[[t1_],[t1_,t1_,t1_,t1_,t1_,t1_,t1_,t1_,{ takes:=[true,false,true] },t1_]] }
def ann17:FAnn:={ ops:=[[],[{ mode:=3 },{ mode:=3 },{ mode:=3 },{},{ takes:=[false,true] },t1_,t1_],[{},{ mode:=3 },t1_,{},t1_,t1_,t1_],[{},{},{},{ mode:=3 },t1_,{},{},t1_,t1_,t1_,t1_],[{},{},{},{ mode:=3 },{},{ mode:=3 },{},{ mode:=3 },{},{ mode:=3 },{ takes:=[true,true,true,true] },{ mode:=3 },{ mode:=3 },t1_,{},{},{},t1_,t1_,t1_],[{},{},{},{ mode:=3 },{},{ mode:=3 },t2_,{ mode:=3 },{ mode:=3 },t1_,{},{},{},t1_,t1_,t1_],[{},{},{},{ mode:=3 },{},{ mode:=3 },t2_,{ mode:=3 },{ mode:=3 },t1_,{},{},{},t1_,t1_,t1_],[{},{},{},{ mode:=3 },{},{ mode:=3 },{},{ mode:=3 },{ takes:=[true,true,true] },{ mode:=3 },{ mode:=3 },t1_,{},{},{},t1_,t1_,t1_],[{},{},{},{ mode:=3 },t1_,{ mode:=3 },{ mode:=3 },t1_,{},{},{},t1_,t1_,t1_],[{},{},{ mode:=3 },t1_,{},t1_,t1_,t1_],[{},{},{ mode:=3 },t1_,{},t1_,t1_,t1_],[{},{},{ mode:=3 },t1_,{},t1_,t1_,t1_],[{},{},{},{ mode:=3 },t1_,{},t1_,t1_,t1_],[{},{},t1_,{ mode:=3 },t1_,{},t1_,t1_,t1_],[{},{},{},{ mode:=3 },{ mode:=3 },t1_,{},{},t1_,t1_],[{},{},{},{ mode:=3 },{ mode:=3 },t1_,{},{},t1_,t1_],[{},{},{},{ mode:=3 },{ mode:=3 },t1_,{},{},t1_,t1_],[{},{},{ mode:=3 },t1_,{},t1_,t1_,t1_],[{},{},{ mode:=3 },t1_,{},t1_,t1_,t1_],[{},{},{ mode:=3 },t1_,{},t1_,t1_,t1_],[{},{},{ mode:=3 },t1_,{},t1_,t1_,t1_],[{},{},{ mode:=3 },t1_,{},t1_,t1_,t1_],[{},{},{ mode:=3 },t1_,{},t1_,t1_,t1_],[t1_,t1_,t1_,t1_,t1_,{ takes:=[true,false,true] },t1_,t1_,t1_,{ takes:=[true,false,true] },t1_,t1_,t1_,{ takes:=[true,false,true] },t1_,t1_,t1_,{ takes:=[true,false,true] },t1_,t1_,t1_,{ takes:=[true,false,true] },t1_,t1_,t1_,{ takes:=[true,false,true] },t1_,t1_,t1_,{ takes:=[true,false,true] },t1_,t1_,t1_,{ takes:=[true,false,true] },t1_,t1_,t1_,{ takes:=[true,false,true] },t1_,t1_,t1_,{ takes:=[true,false,true] },t1_,t1_,t1_,{ takes:=[true,false,true] },t1_,t1_,t1_,{ takes:=[true,false,true] },t1_,t1_,t1_,{ takes:=[true,false,true] },t1_,t1_,t1_,{ takes:=[true,false,true] },t1_,t1_,t1_,{ takes:=[true,false,true] },t1_,t1_,t1_,{ takes:=[true,false,true] },t1_,t1_,t1_,{ takes:=[true,false,true] },t1_,t1_,t1_,{ takes:=[true,false,true] },t1_,t1_,t1_,{ takes:=[true,false,true] },t1_,t1_,t1_,{ takes:=[true,false,true] }],[],[t1_,{},{ mode:=3 },{ mode:=3 },t1_,t1_,t1_,t1_,{ takes:=[true,false,true] },t1_,t1_,t1_,{ takes:=[true,false,true] },t1_,t1_,t1_,{ takes:=[true,false,true] },t1_,t1_,t1_,{ takes:=[true,false,true] },t1_,t1_,{},{ mode:=3 },t1_,{ takes:=[true,false,true] },t1_,t1_,{},{ mode:=3 },{ mode:=3 },t1_,{ takes:=[true,false,true] },t1_,t1_,t1_,{ takes:=[true,false,true] },t1_,t1_,t1_,{ takes:=[true,false,true] },t1_,t1_,t1_,{ takes:=[true,false,true] },t1_,t1_,t1_,{ takes:=[true,false,true] }],[],[{},{},t1_,{ mode:=3 },t1_,{},{},t1_,t1_,t1_,t1_],[t1_,t1_,t1_,{ mode:=3 },t1_,{},t1_,t1_,t1_],[t1_,t1_,t1_,t1_,t1_,t2_,t1_,t1_,t1_,t2_,t1_,t1_,t1_,t2_,t1_,t1_,t1_,t2_,t1_]] }
def ann18:FAnn:={ ops:=[[t1_],[{},{ mode:=3 },t1_],[{},t1_],[t1_,{},t1_],[t1_,{ mode:=3 },t1_,t1_,t1_,t1_],[{},t1_,{ takes:=[false,true] },t1_],[{},t1_,t2_],[t1_,t1_]] }
def ann19:FAnn:={ ops:=[[t1_],[{},{ mode:=3 },t1_],[t1_,{ mode:=3 },{},t1_],[t1_,{ mode:=3 },t1_]] }
def ann20:FAnn:={ ops:=[[t1_],[{},t1_,t1_,{ mode:=3 },t1_,t1_],[],[{},t1_,{},t1_,{ mode:=3 },t1_,t1_],[],[{},t1_,t1_,{},t1_,t2_,t1_],[],[{},t1_,t1_,{ mode:=3 },t1_,t1_,{},t1_,t1_,{ takes:=[true,false,true] },t1_,t1_,t1_,t1_,{ takes:=[true,false,true] },t1_],[],[]] }
def ann21:FAnn:={ ops:=[[t1_],[{},t1_,t1_,t1_,{},t1_,t1_,{ takes:=[true,false,true] }],[],[{},t1_,{},t1_,{ mode:=3 },t1_],[],[{},t1_,t1_,{},t1_,t2_],[],[{},t1_,t1_,t1_,{},t1_,t1_,{ takes:=[true,false,true] },t1_,{},t1_,t1_,{ takes:=[true,false,true] },t1_,t1_,t1_,t1_,{ takes:=[true,false,true] }],[],[]] }
def ann22:FAnn:={ ops:=[[],[],[{},t1_,t1_,t1_],[],[t1_,t1_,{ mode:=3 },t1_],[],[]] }
def ann23:FAnn:={ ops:=[[],[{},t1_,t1_],[],[],[{},{},t1_,t2_],[t1_,t1_,t1_],[{},{},t2_,t1_,{},{ takes:=[false,true] }],[{},t1_,t1_,t1_,{},t1_,t1_,{ takes:=[true,false,true] },t1_,{},t1_,t1_,{ takes:=[true,false,true] },t1_,t1_,t1_,t1_,{ takes:=[true,false,true] }],[],[]],keepL:=[(0,[i_,o_,o_,i_,o_,o_,o_,o_,o_,o_,o_,o_,o_,o_,o_,o_,o_,o_,o_,o_,o_,o_,o_,o_,o_,o_,o_,o_,o_,o_,o_,o_,o_,o_,o_,o_])] }
def ann24:FAnn:={ ops:=[[],[{},t1_,{},t1_,t2_],[],[],[{},{},t1_,t2_],[t1_,t1_,t1_],[{},{},t2_,t1_,{},{},t2_,t1_,t2_],[],[]],keepL:=[(0,[i_,i_,o_,o_,o_,i_,o_,o_,o_,o_,o_,o_,o_,o_,o_,o_,o_,o_,o_,o_,o_,o_,o_,o_,o_,o_])] }
def ann25:FAnn:={ ops:=[[],[{},t1_,t1_],[],[],[],[{},{},t1_,t2_],[t1_,t1_,t1_],[t1_,{},{},t2_,t1_,t1_,t2_,t1_],[t1_,t1_,t1_]],keepL:=[(0,[i_,o_,o_,i_,i_,o_,o_,o_,o_,o_,o_,o_,o_,o_,o_,o_,o_,o_,o_,o_,o_,o_,o_])] }
def ann26:FAnn:={ ops:=[[t1_],[t1_,t1_,t1_,{ mode:=3 },t1_,{},{},t1_,t1_,t1_,t1_],[],[t1_],[],[{},t1_,{},{ takes:=[false,true] }],[t1_,{},t1_,t2_,t1_],[t1_,t1_,t1_,t2_,t1_],[t1_,t1_],[t1_,t1_,t1_,t1_,t1_,t1_]],keepL:=[(0,[o_,o_,o_,o_,o_,o_,o_,o_,o_,o_,o_,i_,i_,i_,o_,o_,o_,o_,o_,o_,o_,o_,o_,o_,i_,i_,i_,o_,o_,o_,o_,o_,o_,o_,o_,o_,o_,o_,o_,o_,o_,o_])] }
def ann27:FAnn:={ ops:=[[t1_],[{},{},{ mode:=3 },t1_],[t1_,t1_,{ mode:=3 },{},{},t1_],[{},{},{},{ mode:=3 },t1_],[t1_,t1_,t1_,{ mode:=3 },{},{},t1_],[t1_,t1_,{},{},t1_],[],[{},{},t1_,t2_],[t1_,t1_,t1_],[{},{},{},t2_,t1_,t1_,t1_,t2_,t1_,t1_,t1_],[t1_,{},{},{},t2_,t1_,{ mode:=3 },t2_,t1_],[t1_,t1_,{},{ mode:=3 },t2_,t1_],[t1_,t1_],[t1_,t1_,t1_,t1_]],keepL:=[(0,[o_,i_,i_,o_,o_,o_,o_,o_,o_,i_,i_,i_,i_,o_,o_,o_,o_,o_,o_,o_,o_,o_,o_,o_,o_,o_,o_,o_,o_,o_,o_,o_,o_,o_,o_,o_,o_,o_,o_,o_,o_,o_,o_,o_,o_,o_,o_,o_,o_,o_,o_,o_,o_,o_,o_,o_,o_,o_,o_,o_,o_,o_,o_,o_])] }
def ann28:FAnn:={ ops:=[[t1_],[{},{},t1_,{ mode:=3 },t1_,{},{},t1_,t1_,t1_,t1_],[{},t1_],[t1_,{},t1_],[t1_,t1_,{ takes:=[false,true] },t1_],[],[t1_],[],[{},t1_,{},{ takes:=[false,true] }],[t1_,{},t1_,{},t1_,t2_,{},t1_,t2_,t2_,t1_],[t1_,t1_],[],[{},t1_,t1_],[{},t1_,{},t2_,t2_],[t1_,t1_],[t1_,t1_],[t1_,t1_]],keepL:=[(0,[o_,o_,o_,i_,o_,o_,o_,o_,o_,o_,o_,i_,i_,o_,o_,o_,o_,o_,o_,o_,o_,o_,o_,o_,o_,o_,o_,o_,o_,o_,o_,i_,i_,i_,o_,o_,o_,o_,o_,o_,o_,o_,o_,o_,o_,o_,o_,o_,o_,o_,o_,o_,o_,o_,o_,o_,o_,o_,o_,o_,o_]),(2,[o_,o_,o_,i_,o_,o_,o_,o_,o_,o_,o_,i_,i_,o_,o_,o_,o_,o_,o_,o_,o_,o_,o_,o_,o_,o_,o_,o_,o_,o_,o_,i_,i_,i_,o_,o_,o_,o_,o_,o_,o_,o_,o_,o_,o_,o_,o_,o_,i_,i_,i_,o_,o_,o_,o_,o_,o_,o_,o_,o_,o_])] }
def ann29:FAnn:={ ops:=[[],[],[],[],[],[{},t1_,{},t1_],[],[],[],[],[t1_,{},t1_,t1_,{},{ mode:=3 },t2_,{},{},{},t2_,t1_,{ mode:=3 },t2_,t2_,t1_]] }
def ann30:FAnn:={ ops:=[[t1_],[t1_,{},t1_,{ mode:=3 },t1_,{},{},t1_,t1_,t1_,t1_],[{},t1_],[t1_,{},t1_],[t1_,t1_,{ takes:=[false,true] },t1_],[t1_],[],[{},t1_,{},{ takes:=[false,true] }],[t1_,t1_],[],[{},{},t1_,t1_,t1_],[{},t1_,{},t1_,t1_,t1_,t1_,t2_,t1_,t2_,t2_],[t1_,t1_],[t1_,t1_],[t1_,t1_]],keepL:=[(0,[o_,o_,o_,o_,o_,o_,o_,o_,i_,o_,o_,i_,o_,o_,o_,o_,o_,o_,o_,o_,o_,o_,o_,o_,o_,o_,o_,o_,o_,o_,i_,i_,i_,o_,o_,o_,o_,o_,o_,o_,o_,o_,o_,o_,o_,o_,o_,o_,o_,o_,o_,o_,o_,o_,o_,o_,o_]),(2,[o_,o_,o_,o_,o_,o_,o_,o_,i_,o_,o_,i_,o_,o_,o_,o_,o_,o_,o_,o_,o_,o_,o_,o_,o_,o_,o_,o_,o_,o_,i_,i_,i_,o_,o_,o_,o_,i_,i_,i_,o_,o_,o_,o_,o_,o_,o_,o_,o_,o_,o_,o_,o_,o_,o_,o_,o_])] }
def ann31:FAnn:={ ops:=[[],[],[],[],[t1_,t1_,{ takes:=[false,true] },{ takes:=[true],mode:=3 },{ mode:=3 },t1_,t1_],[],[],[],[],[],[],[{},{},{},t2_,t1_,{},t2_,t1_,{},{},t2_,t1_,t2_,t2_]] }
def ann32:FAnn:={ ops:=[[],[{},t1_,{},t1_,t2_],[],[],[{},{},t1_,t2_],[t1_,t1_,t1_],[{},{},t2_,t1_,{},{},t2_,t1_,t2_],[],[]],keepL:=[(0,[i_,i_,o_,o_,o_,i_,o_,o_,o_,o_,o_,o_,o_,o_,o_,o_,o_,o_,o_,o_,o_,o_,o_,o_,o_,o_])] }
def ann33:FAnn:={ ops:=[[t1_],[t1_,t1_,{ mode:=3 },t1_,{},t1_,t1_,t1_],[{},t1_],[t1_,{},t1_],[{},t1_,t1_,t1_,t1_,t1_,{ mode:=3 },t1_]] }
def ann35:FAnn:={ ops:=[[t1_],[t1_,t1_,{ mode:=3 },t1_,{},t1_,t1_,t1_],[{},t1_],[t1_,{},t1_],[t1_,{ mode:=3 },t1_]] }
def ann37:FAnn:={ ops:=[[t1_],[t1_,t1_,{ mode:=3 },t1_,{},t1_,t1_,t1_],[{},t1_],[t1_,{},t1_],[{ mode:=1 }],[{},{ mode:=3 }],[],[{},t1_,t1_],[{},t1_,{ mode:=3 },{},t1_,t1_,t1_,t1_,{ mode:=3 }],[t1_],[{},{},t1_,{},t1_,{ takes:=[true,true,true] },t1_,{ mode:=3 },{ mode:=3 },t1_,t2_,{ takes:=[false,true] }],[t1_,t1_],[t1_,t1_]],keepL:=[(0,[o_,o_,o_,o_,o_,o_,i_,o_,i_,o_,o_,o_,o_,o_,o_,o_,o_,o_,o_,o_,o_,o_,i_,i_,i_,o_,o_,o_,o_,o_,o_,o_,o_,o_,o_,o_,o_,o_,o_,o_,o_,o_,o_,o_,o_,o_,o_,o_,o_,o_,o_])] }
def ann38:FAnn:={ ops:=[[t1_,t1_],[t1_,{},{ mode:=3 },t1_,{},t1_,t1_,t1_],[{},t1_,t1_],[t1_,{},t1_],[{},{},t1_,{ mode:=3 },t1_,t1_],[],[],[],[],[{},t1_],[{},t1_,{ mode:=3 },t1_],[],[],[],[{},t1_,{},{ takes:=[false,true] }],[{},{},{ mode:=3 },t1_],[{},{},{ mode:=6 },t1_],[{},t1_],[{},t1_,t1_],[t1_,{},{},t1_,t1_,t1_,t1_,t2_,t2_],[],[t1_,{},t1_,t2_,t1_,t1_,t2_,t1_],[t1_,t1_,t1_],[t1_,t1_],[t1_,t1_],[t1_,t1_]],keepL:=[(1,[o_,o_,i_,o_,i_,o_,o_,o_,i_,o_,i_,o_,o_,o_,o_,o_,o_,o_,o_,o_,o_,o_,o_,o_,o_,o_,o_,o_,o_,o_,o_,o_,o_,i_,o_,o_,o_,o_,o_,o_,o_,o_,o_,o_,o_,o_,o_,o_,o_,o_,o_,o_,o_,o_,o_,o_,o_,o_,o_,o_,o_,o_,o_,o_,o_,o_,o_,o_,o_,o_,o_,o_,o_,o_,o_,o_,o_]),(3,[o_,o_,i_,o_,i_,o_,o_,o_,i_,o_,i_,o_,i_,i_,o_,o_,o_,o_,o_,o_,o_,o_,o_,o_,o_,o_,o_,o_,o_,o_,o_,o_,o_,i_,o_,o_,o_,o_,o_,i_,i_,i_,o_,o_,o_,o_,o_,o_,o_,o_,o_,o_,o_,o_,o_,o_,o_,o_,o_,o_,o_,o_,o_,o_,o_,o_,o_,o_,o_,o_,o_,o_,o_,o_,o_,o_,o_])] }
def ann39:FAnn:={ ops:=[[t1_],[{},{},{ mode:=3 },t1_],[t1_,t1_,{ mode:=3 },{},t1_],[{},{},t1_,{ mode:=3 },t1_],[],[t1_,{ mode:=3 },t1_,t1_],[],[{},{},t1_,t2_],[t1_,t1_,t1_],[{},{},{},{},t2_,t1_,{ mode:=3 },t1_],[{},{},{ mode:=3 },{},{},t2_,t1_,{ mode:=3 },t1_,{},t2_,t1_,t2_],[],[t1_,{},{},{},t2_,t1_,t2_,t1_,t1_,t2_,t1_],[t1_,t1_]],keepL:=[(0,[o_,i_,i_,o_,o_,o_,o_,o_,i_,i_,i_,o_,o_,o_,o_,o_,o_,o_,o_,o_,o_,o_,o_,o_,o_,o_,o_,o_,o_,o_,o_,o_,o_,o_,o_,o_,o_,o_,o_,o_,o_,o_,o_,o_,o_,o_,o_,o_,o_,o_,o_,o_,o_,o_,o_,o_,o_,o_,o_,o_,o_,o_,o_,o_])] }
def ann40:FAnn:={ ops:=[[t1_],[t1_,t1_,{ mode:=3 },t1_,{},t1_,t1_,t1_],[{},t1_],[t1_,{},t1_],[{},t1_,t1_,t1_,t1_,t1_],[{},{},{ mode:=3 },t1_,t1_,t1_,{ mode:=3 },t2_,t1_]] }
def ann42:FAnn:={ ops:=[[t1_],[{},{},{ mode:=3 },t1_,{},t1_,t1_,t1_],[{},t1_,t1_],[t1_,{},t1_],[{},t1_,t1_],[],[t1_,t1_,t1_,{},{ mode:=3 },t2_,t2_,{},t1_],[{},{},{ mode:=3 },{},t2_],[t1_,t1_,t1_],[{},{},t1_,t2_],[t1_,{},{ mode:=3 },t1_,t2_],[],[t1_,t1_]],keepL:=[(1,[o_,i_,o_,o_,o_,o_,o_,o_,i_,o_,i_,i_,o_,o_,o_,o_,o_,o_,o_,o_,o_,o_,o_,o_,o_,o_,o_,o_,o_,o_,o_,o_,o_,o_,o_,o_,o_,o_,o_,o_,o_,o_,o_,o_,o_,o_,o_,o_,o_])] }
def ann43:FAnn:={ ops:=[[],[],[],[],[],[],[],[],[{},{},{ mode:=3 },{},t1_,{},{},{ mode:=3 },t2_,t2_,{},t2_]] }
def ann44:FAnn:={ ops:=[[t1_],[t1_,t1_,{ mode:=3 },t1_,{},t1_,t1_,t1_],[{},t1_],[t1_,{},t1_],[],[{},{ mode:=3 }],[],[{},t1_,t1_],[{},t1_,{ mode:=3 },{},t1_,t1_,t1_,t1_,{ mode:=3 }],[t1_],[{ mode:=1 },t1_,t1_,t1_,t1_,t2_,{ takes:=[false,true],mode:=1 }],[t1_,t1_],[{ mode:=2 },{ takes:=[false,true],mode:=1 }],[t1_,t1_]],keepL:=[(0,[o_,o_,o_,o_,o_,o_,i_,o_,i_,o_,o_,o_,o_,o_,o_,o_,o_,o_,o_,o_,o_,o_,i_,i_,i_,o_,o_,o_,o_,o_,o_,o_,o_,o_,o_,o_,o_,o_,o_,o_,o_,o_,o_,o_,o_,o_,o_,o_])] }
def ann45:FAnn:={ ops:=[[t1_],[{},{},{ mode:=3 },t1_,t1_,t1_,t1_,{ mode:=3 },t1_,t2_,t1_]] }
def ann46:FAnn:={ ops:=[[t1_],[{},{},{ mode:=3 },t1_,{},t1_,t1_,t1_],[{},{},{ mode:=3 },t1_,{},t1_,t1_,t1_],[{},{},{ mode:=3 },t1_,{},t1_,t1_,t1_],[t1_,t1_,t1_,t1_,t1_,{ takes:=[true,false,true] },t1_,t1_,t1_,{ takes:=[true,false,true] },t1_,{},{ mode:=3 },{ takes:=[true,false,true] }],[],[{},{},{},{ mode:=3 },t1_,{},{},t1_,t1_,t1_,t1_],[t1_,t1_,{},{ mode:=3 },t1_,{},{},t1_,t1_,t1_,t1_],[{},{},t1_,t1_,t1_,t1_,t1_,t1_,t2_,t1_,t1_,{},t2_,t2_,t1_,t1_,t1_,t2_,t2_,t1_,t1_,{},t2_,t2_,t1_,t1_,t1_,t2_,t2_,t1_,t1_,t1_,t1_]] }
def ann47:FAnn:={ ops:=[[],[],[],[],[],[],[],[],[],[],[],[],[],[{},{},t2_,t1_,{},t1_,t1_,{ takes:=[false,true] },t1_,{},{},{},t2_,t1_,t1_,t1_,t2_,t1_,t1_,{},{},t2_,t1_,t1_,t2_,{ takes:=[false,true] },t1_,{},{},t2_,t1_,t1_,{ mode:=3 },{ mode:=3 },t1_,t2_,{ takes:=[false,true] }]] }
def ann48:FAnn:={ ops:=[[],[],[],[],[{},{},t2_,t1_,t1_,{},t1_,t2_]] }
def ann49:FAnn:={ ops:=[[],[t1_,t1_,t1_,t1_,{ takes:=[true,true,true,true] },{ takes:=[false,true] }]] }
def ann51:FAnn:={ ops:=[[t1_],[],[],[{},{},t1_,t2_],[t1_,t1_,t1_],[{},t1_,{},{ mode:=3 },t1_],[t1_,{},t1_,t2_,t1_],[t1_,t1_]],keepL:=[(0,[o_,i_,o_,i_,i_,o_,o_,o_,o_,o_,o_,o_,o_,o_,o_,o_,o_,o_,o_,o_,o_])] }
def ann52:FAnn:={ ops:=[[],[{},{},t2_,t1_,t1_,t2_,t2_,t1_]] }
def ann53:FAnn:={ ops:=[[],[],[{},{},t1_,t2_],[t1_,t1_,t1_],[{},{},t2_,t1_,{},t2_],[],[]],keepL:=[(0,[i_,i_,o_,o_,o_,i_,o_,o_,o_,o_,o_,o_,o_,o_,o_,o_,o_,o_])] }
def ann54:FAnn:={ ops:=[[],[{},{ mode:=3 },{ takes:=[false,true] }]] }
def ann55:FAnn:={ ops:=[[],[{},{ mode:=3 },t1_]] }
def ann56:FAnn:={ ops:=[[],[t1_,t1_]] }
def ann57:FAnn:={ ops:=[[],[{},{ mode:=3 },{},{ mode:=3 },{},{ mode:=3 },{ takes:=[true,true,true] },{ mode:=3 },t1_]] }
def ann58:FAnn:={ ops:=[[],[t1_,t1_]] }
def ann59:FAnn:={ ops:=[[t1_],[t1_,{},t2_,t1_,t1_],[{},t1_,t1_,t1_,t1_],[t1_],[],[{},t1_,{},{ takes:=[false,true] }],[{},t1_,t1_,{},t1_,t1_,t1_,t1_,{},t1_,t1_,t2_],[t1_,t1_],[{},t1_],[{},t1_,t1_,t1_,t1_],[],[{},t1_],[{},{},t1_,t1_,{ takes:=[true,true,true] }],[t1_,t1_],[{},t1_,t1_,t1_,t1_],[],[{},t1_,t1_],[{},t1_,t1_,t2_],[t1_,t1_],[t1_,t1_],[{},t1_],[{},t1_,t1_],[{},{},t1_,t1_,{ takes:=[true],mode:=1 },t1_,t1_,t2_,t1_,t1_,{ takes:=[true,true],mode:=1 }],[{},t1_,t1_,{ takes:=[true],mode:=2 },{ takes:=[false,true],mode:=1 }],[t1_,t1_]],keepL:=[(0,[o_,o_,o_,o_,o_,i_,o_,o_,o_,o_,o_,o_,o_,o_,o_,o_,o_,o_,o_,o_,o_,o_,i_,i_,i_,o_,o_,o_,o_,o_,o_,o_,o_,o_,o_,o_,o_,o_,o_,o_,o_,o_,o_,o_,o_,o_,o_,o_,o_,o_,o_,o_,o_,o_,o_,o_,o_,o_,o_,o_,o_,o_,o_,o_,o_,o_,o_,o_,o_,o_,o_,o_,o_,o_,o_,o_,o_,o_,o_,o_,o_,o_,o_,o_,o_,o_,o_,o_,o_,o_]),(2,[o_,o_,o_,o_,o_,i_,o_,o_,i_,o_,o_,o_,o_,o_,o_,o_,o_,o_,o_,o_,o_,o_,o_,o_,o_,o_,o_,o_,o_,o_,o_,o_,o_,o_,o_,o_,o_,o_,o_,o_,o_,o_,o_,o_,o_,i_,i_,o_,o_,o_,o_,o_,o_,o_,o_,o_,o_,o_,o_,o_,o_,o_,o_,o_,o_,o_,o_,o_,o_,o_,o_,o_,o_,o_,o_,o_,o_,o_,o_,o_,o_,o_,o_,o_,o_,o_,o_,o_,o_,o_]),(4,[o_,o_,o_,o_,o_,i_,o_,o_,i_,o_,o_,o_,o_,o_,o_,o_,o_,o_,o_,o_,o_,o_,o_,o_,o_,o_,o_,o_,o_,o_,o_,o_,o_,o_,o_,o_,o_,o_,o_,o_,o_,o_,o_,o_,o_,o_,o_,o_,o_,o_,o_,o_,o_,o_,o_,o_,o_,o_,i_,i_,i_,o_,o_,o_,o_,o_,o_,o_,o_,o_,o_,o_,o_,o_,o_,o_,o_,o_,o_,o_,o_,o_,o_,o_,o_,o_,o_,o_,o_,o_]),(6,[o_,o_,o_,o_,o_,i_,o_,o_,o_,o_,o_,o_,o_,o_,o_,o_,o_,o_,o_,o_,o_,o_,o_,o_,o_,o_,o_,o_,o_,o_,o_,o_,o_,o_,o_,o_,o_,o_,o_,o_,o_,o_,o_,o_,o_,o_,o_,o_,o_,o_,o_,o_,o_,o_,o_,o_,o_,o_,o_,o_,o_,o_,o_,o_,o_,o_,o_,o_,o_,i_,o_,o_,o_,o_,o_,o_,o_,o_,o_,o_,o_,o_,o_,o_,o_,o_,o_,o_,o_,o_])] }
def ann60:FAnn:={ ops:=[[t1_,t1_],[t1_,t2_,{ mode:=6 },t1_,t1_]] }
def ann61:FAnn:={ ops:=[[],[],[t1_],[],[{},t1_,t1_],[t1_,{},t1_,{},t1_,{ mode:=3 },t1_],[],[t1_,t1_,t1_],[t1_,t1_],[]],keepL:=[(0,[o_,i_,o_,o_,o_,i_,o_,o_,i_,i_,i_,o_,o_,o_,o_,o_,o_,o_,o_,o_,o_,o_,o_,o_])] }
def ann62:FAnn:={ ops:=[[],[],[{},{},t1_,t2_],[t1_,t1_,t1_],[{},{},t2_,t1_,t1_,t1_,{},{},t2_,t1_,{},t2_,{ takes:=[false,false,true] },t1_,{},t1_,t1_,{},{},t2_,t1_,{},{},t1_,t2_,t1_,t2_,{ takes:=[false,true] },{ takes:=[false,false,true] }],[],[]],keepL:=[(0,[i_,i_,o_,o_,o_,i_,o_,o_,o_,o_,o_,o_,o_,o_,o_,o_,o_,o_,o_,o_,o_,o_,o_,o_,o_,o_,o_,o_,o_,o_,o_,o_,o_,o_,o_,o_,o_,o_,o_,o_,o_])] }
def ann63:FAnn:={ ops:=[[t1_],[{},t1_,t1_,{ mode:=3 },t1_,t1_,{},t1_,t1_,{ takes:=[true,false,true] },t1_,t1_,t1_,t1_,{ takes:=[true,false,true] },t1_]] }
def ann64:FAnn:={ ops:=[[],[t1_,t1_,{ mode:=6 },t1_,t1_]] }
def ann65:FAnn:={ ops:=[[t1_,t1_],[{},{},{ mode:=3 },t1_,{},t1_,t1_,t1_],[{},t1_],[t1_,{},{},t1_],[{},t1_,{ takes:=[false,true] },{},{ takes:=[false,true] }],[],[t1_,t1_,t1_],[t1_],[],[{},t1_,{},{ takes:=[false,true] }],[{},t1_,t1_,t1_,{},{},t1_,{ mode:=3 },t1_,{ takes:=[true,false,true] },t1_],[],[{},t1_,{},t1_,t1_,t1_,t1_,t2_,t1_],[],[{},{},{ mode:=6 },t1_],[],[{},{},{ mode:=6 },t1_],[],[],[],[{},t1_,t1_],[{},t1_,{},t1_,t1_,t2_,t2_],[t1_,t1_],[t1_,{},t1_,t2_,t1_],[{},{},t1_,t1_,t2_,t1_,t1_,t1_],[t1_,{},{},{},{},t1_,{ mode:=3 },t2_,t1_,t1_,t1_,{},{ mode:=3 },{ takes:=[true,true,true] },t1_,t2_,t1_],[t1_,t1_],[t1_,t1_],[t1_,t1_,t1_,t2_],[],[t1_,t1_,t1_,t1_]],keepL:=[(0,[o_,o_,o_,o_,i_,o_,o_,o_,o_,i_,o_,i_,i_,i_,i_,o_,o_,o_,o_,o_,o_,o_,o_,o_,o_,o_,o_,o_,o_,o_,o_,o_,o_,o_,i_,i_,i_,o_,o_,o_,o_,o_,o_,o_,o_,o_,o_,o_,o_,o_,o_,o_,o_,o_,o_,o_,o_,o_,o_,o_,o_,o_,o_,o_,o_,o_,o_,o_,o_,o_,o_,o_,o_,o_,o_,o_,o_,o_,o_,o_,o_,o_,o_,o_,o_,o_,o_,o_,o_,o_,o_,o_,o_,o_,o_,o_,o_,o_,o_,o_,o_,o_,o_,o_,o_,o_,o_,o_,o_,o_,o_,o_,o_,o_,o_,o_]),(3,[o_,o_,o_,o_,i_,o_,o_,o_,o_,i_,o_,i_,i_,i_,i_,o_,i_,o_,o_,o_,o_,o_,o_,o_,o_,o_,o_,o_,o_,o_,o_,o_,o_,o_,i_,i_,i_,o_,o_,o_,o_,o_,o_,o_,o_,o_,o_,o_,o_,o_,o_,o_,o_,o_,o_,o_,o_,o_,o_,o_,o_,o_,o_,o_,o_,o_,o_,o_,i_,i_,i_,o_,o_,o_,o_,o_,o_,o_,o_,o_,o_,o_,o_,o_,o_,o_,o_,o_,o_,o_,o_,o_,o_,o_,o_,o_,o_,o_,o_,o_,o_,o_,o_,o_,o_,o_,o_,o_,o_,o_,o_,o_,o_,o_,o_,o_])] }
def ann66:FAnn:={ ops:=[[t1_],[{},{ mode:=3 },t1_],[t1_,{ mode:=3 },t1_],[t1_,{ mode:=3 },t1_]] }
def ann67:FAnn:={ ops:=[[t1_],[],[],[{},{},t1_,t2_],[t1_,t1_,t1_],[{},{},t2_,t1_,t1_],[{},t1_,t1_,t1_,{},{},t1_,{ mode:=3 },t1_,{ takes:=[true,false,true] }],[],[{},t1_,{},{ mode:=3 },t1_,t2_],[],[],[{},{},t1_,t2_],[t1_,t1_,t1_],[{},{},{},t2_,t1_,t2_,t1_,t1_,{},{},t1_,t1_,t2_,t1_,t1_,t2_],[],[],[{},{},t1_,t2_],[t1_,t1_,t1_],[{},{},{},t2_,t1_,{ mode:=3 }],[],[t1_,t1_,t2_,t1_],[t1_,t1_,t1_,t1_,t2_],[],[]],keepL:=[(0,[o_,i_,i_,i_,o_,o_,o_,i_,i_,o_,o_,o_,o_,o_,o_,o_,o_,o_,o_,o_,o_,o_,o_,o_,o_,o_,o_,o_,o_,o_,o_,o_,o_,o_,o_,o_,o_,o_,o_,o_,o_,o_,o_,o_,o_,o_,o_,o_,o_,o_,o_,o_,o_,o_,o_,o_,o_,o_,o_,o_,o_,o_,o_,o_,o_,o_,o_,o_,o_,o_,o_,o_,o_,o_,o_,o_,o_,o_,o_,o_]),(2,[o_,i_,i_,i_,o_,o_,o_,i_,i_,i_,i_,o_,o_,o_,o_,o_,o_,o_,o_,o_,o_,o_,o_,o_,o_,o_,o_,o_,o_,o_,o_,o_,o_,o_,o_,o_,o_,o_,o_,o_,o_,o_,o_,o_,o_,o_,o_,o_,o_,o_,o_,o_,o_,o_,o_,o_,o_,o_,o_,o_,o_,o_,o_,o_,o_,o_,o_,o_,o_,o_,o_,o_,o_,o_,o_,o_,o_,o_,o_,o_]),(4,[o_,i_,i_,i_,o_,o_,o_,i_,i_,i_,o_,i_,o_,o_,o_,o_,o_,o_,o_,o_,o_,o_,o_,o_,o_,o_,o_,o_,o_,o_,o_,o_,o_,o_,o_,o_,o_,o_,o_,o_,o_,o_,o_,o_,o_,o_,o_,o_,o_,o_,o_,o_,o_,o_,o_,o_,o_,o_,o_,o_,o_,o_,o_,o_,o_,o_,o_,o_,o_,o_,o_,o_,o_,o_,o_,o_,o_,o_,o_,o_])] }
def ann68:FAnn:={ ops:=[[],[],[],[{},{},t1_,t2_],[t1_,t1_,t1_],[t1_,{},{},{},t2_,t1_,t2_,t1_,t1_,t2_,t1_],[t1_,t1_]],keepL:=[(0,[i_,i_,o_,o_,o_,i_,i_,o_,o_,o_,o_,o_,o_,o_,o_,o_,o_,o_,o_,o_,o_,o_,o_,o_])] }
def ann69:FAnn:={ ops:=[[t1_],[{},{ mode:=3 },t1_],[{},t1_],[t1_,{},t1_],[{},{ mode:=3 },t1_],[{},t1_],[t1_,{},t1_],[t1_,t1_,{ mode:=3 },t1_]] }
def ann70:FAnn:={ ops:=[[t1_],[],[],[],[{},t1_],[{},t1_,{ mode:=3 },{},{ mode:=3 }],[t1_],[{},t1_,t1_,t1_,t1_,t1_,t1_,t1_,t2_,t1_,t1_,t2_,{ takes:=[false,true] }],[t1_,t1_],[t1_,t1_]],keepL:=[(0,[o_,i_,i_,o_,o_,i_,o_,o_,i_,o_,o_,o_,o_,o_,o_,o_,o_,o_,o_,o_,o_,o_,o_,o_,o_,o_,o_,o_,o_,o_,o_])] }
def ann72:FAnn:={ ops:=[[],[{},t1_,t1_,t1_,t1_,t1_],[t1_,{ mode:=3 }],[],[{},t1_,t1_],[t1_,t1_,{},{ mode:=3 },t2_,t1_],[t1_,t1_],[t1_,t1_],[t1_,t1_]],keepL:=[(0,[o_,o_,o_,i_,i_,o_,o_,o_,o_,o_,o_,o_,o_,i_,i_,i_,o_,o_,o_,o_,o_,o_,o_,o_,o_,o_,o_])] }
def ann73:FAnn:={ ops:=[[],[{},t1_,{},t1_,t1_,t1_],[],[],[],[t1_,{},{},t2_,t1_,t1_,t2_,t1_,{},{},t2_,t1_,t1_,t2_,t1_,t1_]] }
def ann74:FAnn:={ ops:=[[t1_],[{},t1_,t1_,t1_,{},t2_],[],[],[{},t1_,t1_,t1_],[],[{},{},t1_,t1_],[t1_,t1_],[t1_,t1_,t1_,t2_,t1_],[t1_,t1_],[{},{},t1_],[{ takes:=[true],mode:=1 },{ takes:=[false,true],mode:=1 }],[t1_,{ takes:=[true],mode:=2 },t2_,t1_,{},t1_]],keepL:=[(0,[o_,i_,o_,i_,o_,o_,o_,o_,o_,o_,o_,o_,o_,o_,o_,o_,i_,i_,o_,o_,o_,o_,o_,o_,o_,o_,o_,o_,o_,o_,o_,o_,o_,o_,o_,o_,o_])] }
def ann75:FAnn:={ ops:=[[t1_,t1_],[{},t1_],[{},t1_],[t2_,t1_]] }
def ann76:FAnn:={ ops:=[[],[{},t1_,{},{ takes:=[false,true] }],[t1_,t1_,{ mode:=3 },t1_,{},t1_]] }
def ann77:FAnn:={ ops:=[[],[t1_,{},t1_],[{ takes:=[true],mode:=1 },{ takes:=[false,true],mode:=1 }],[{ takes:=[true],mode:=2 },t1_]] }
def ann78:FAnn:={ ops:=[[t1_],[t1_,t1_]] }
def ann79:FAnn:={ ops:=[[],[t1_,t1_,{ mode:=3 },t1_,t1_]] }
def ann80:FAnn:={ ops:=[[],[{},t1_],[],[{},t1_],[{},{},{},t2_,t1_,{ mode:=6 }],[t1_,t1_],[t1_,t1_],[]],keepL:=[(0,[i_,i_,o_,o_,o_,o_,o_,i_,i_,o_,o_,o_,o_,o_,o_,o_,o_,o_,o_])] }
def ann81:FAnn:={ ops:=[[],[{},t1_,t2_,t1_,t1_,{},t1_,t2_,t1_,t1_,t2_,t1_]] }
def ann82:FAnn:={ ops:=[[],[],[],[{},{},t1_,t2_],[t1_,t1_,t1_],[{},{},{},t2_,t1_,t2_,t1_,{},{ takes:=[false,true] }],[{},t1_,{},{},t2_,t1_,t1_,t2_,t1_,{},t1_,{},{},t2_,t1_,t1_,t2_,{ takes:=[false,false,true] }],[{},t1_,t1_,t1_,t1_,{},{},t2_,t1_,t1_,t2_,{ takes:=[false,false,true] },t1_,{},{},t2_,t1_,{},t2_,{ takes:=[false,false,true] }],[t1_,t1_,t1_],[t1_,t1_]],keepL:=[(0,[i_,i_,i_,i_,o_,o_,o_,o_,o_,i_,i_,o_,o_,o_,o_,o_,o_,o_,o_,o_,o_,o_,o_,o_,o_,o_,o_,o_,o_,o_,o_,o_,o_,o_,o_,o_,o_,o_,o_,o_,o_,o_,o_,o_,o_,o_,o_,o_,o_,o_,o_,o_,o_,o_,o_,o_,o_,o_,o_,o_,o_,o_,o_,o_,o_,o_])] }
def ann83:FAnn:={ ops:=[[],[],[],[{},{},t1_,t2_],[t1_,t1_,t1_],[t1_,{},t1_,t2_,t1_],[t1_,t1_]],keepL:=[(0,[i_,o_,o_,i_,i_,o_,o_,o_,o_,o_,o_,o_,o_,o_,o_,o_])] }
def ann84:FAnn:={ ops:=[[{},t1_,t1_],[t1_,{},t1_,t1_,{ mode:=3 },{ takes:=[false,true,false,true,true],mode:=1 }]] }
def ann85:FAnn:={ ops:=[[],[],[],[{},t1_,{},t1_,t2_],[t1_,t1_,t1_],[t1_,{},{},t2_,t1_,{},{},t1_,t2_,t1_,t2_,t1_,t2_,t1_],[t1_,t1_]],keepL:=[(0,[i_,o_,o_,i_,i_,o_,o_,o_,o_,o_,o_,o_,o_,o_,o_,o_,o_,o_,o_,o_,o_,o_,o_,o_,o_,o_])] }
def ann86:FAnn:={ ops:=[[],[t1_,t1_,{ mode:=6 },t1_,t1_]] }
def ann87:FAnn:={ ops:=[[],[{},t1_,t2_,t1_,t1_,t1_,t2_,{ takes:=[true,false,true] },t1_]] }
def ann88:FAnn:={ ops:=[[],[{},t1_],[],[{},t1_],[{},{},{},t2_,t1_,{ mode:=6 }],[t1_,t1_],[t1_,t1_],[]],keepL:=[(0,[i_,i_,o_,o_,o_,o_,o_,i_,i_,o_,o_,o_,o_,o_,o_,o_,o_,o_,o_])] }
def ann89:FAnn:={ ops:=[[],[{},t1_,t2_,t1_,t1_,{},t1_,t1_,t1_,t2_,t1_,t1_,t2_,t1_]] }
def ann90:FAnn:={ ops:=[[],[t1_,t1_,t2_,t1_,t1_,t1_]] }
def ann91:FAnn:={ ops:=[[],[{},t1_,t1_,t1_],[t1_,t1_],[],[{},t1_,t1_],[{},{},{},{ mode:=6 }],[t1_,t1_],[t1_,t1_],[t1_,t1_]],keepL:=[(0,[o_,i_,o_,o_,o_,i_,o_,o_,o_,o_,o_,o_,i_,i_,i_,o_,o_,o_,o_,o_,o_,o_,o_,o_,o_])] }
def ann92:FAnn:={ ops:=[[],[{},t1_,t1_,t1_,t1_,t2_,t1_,t1_,{},t1_,t1_,t1_,t1_,t2_,t1_,t1_,t2_,t1_]] }
def ann93:FAnn:={ ops:=[[],[{},{},t2_,t1_,t1_,t2_,t2_,t1_]] }
def ann94:FAnn:={ ops:=[[],[{},t1_],[],[{},t1_,t2_,t1_]] }
def ann95:FAnn:={ ops:=[[{},t1_,t1_,{},t1_],[{},{},t2_],[t1_,t1_,t1_,t1_,t1_,t1_],[{},{},{},{},{},{},t2_,t1_,{},{},t2_,t1_,t2_,t2_,t2_,t2_]],keepL:=[(0,[i_,o_,i_,i_,o_,o_,o_,o_,o_,o_,o_,o_,o_,o_,o_,o_,o_,o_,o_,o_,o_,o_,o_,o_,o_,o_,o_,o_])] }
def ann96:FAnn:={ ops:=[[],[{},t1_,t1_,t1_],[t1_,t1_],[],[{},t1_,t1_],[{},{},{},{ mode:=6 }],[t1_,t1_],[t1_,t1_],[t1_,t1_]],keepL:=[(0,[o_,i_,o_,o_,o_,i_,o_,o_,o_,o_,o_,o_,i_,i_,i_,o_,o_,o_,o_,o_,o_,o_,o_,o_,o_])] }
def ann97:FAnn:={ ops:=[[],[{},t1_,t1_,t1_,t1_,t1_,t1_,t1_,{ mode:=3 },{},t1_,t1_,t1_,t1_,t1_,t1_,t1_,{ mode:=3 },t2_,t1_]] }
def ann98:FAnn:={ ops:=[[],[{},{},t1_,t2_],[t1_,{},t2_,t1_],[{},{},{},t2_,t1_,t2_,t1_],[{},{},{},{},{},t2_,{},t1_,t2_,{ takes:=[true,true,true,true] },{ takes:=[true,true],mode:=1 },t1_]],keepL:=[(0,[i_,i_,i_,o_,i_,o_,o_,o_,o_,o_,o_,o_,o_,o_,o_,o_,o_,o_,o_,o_,o_,o_,o_,o_,o_,o_,o_,o_,o_,o_,o_])] }
def ann99:FAnn:={ ops:=[[],[t1_,{},t1_],[{ takes:=[true],mode:=1 },t1_,{ takes:=[false,true,true],mode:=1 }],[{ takes:=[true],mode:=2 },t1_]] }
def ann100:FAnn:={ ops:=[[t1_,t1_],[t2_,t1_]] }
def ann101:FAnn:={ ops:=[[],[{},{},{},{ mode:=3 },t1_],[],[t1_,t1_,t1_,{ mode:=3 },t1_],[],[]] }
def ann102:FAnn:={ ops:=[[],[t1_,{},t1_]] }
def ann103:FAnn:={ ops:=[[t1_],[],[{},t1_,t1_],[{},t1_,{ takes:=[true,true],mode:=1 },t1_],[t1_,t1_]],keepL:=[(0,[i_,o_,o_,o_,o_,i_,i_,i_,o_,o_,o_,o_,o_,o_,o_,o_])] }
def ann104:FAnn:={ ops:=[[],[{},t1_],[],[{},t1_],[{},{},{},t2_,t1_,t2_],[t1_,t1_],[t1_,t1_],[]],keepL:=[(0,[i_,i_,o_,o_,o_,o_,o_,i_,i_,o_,o_,o_,o_,o_,o_,o_,o_,o_,o_])] }
def ann105:FAnn:={ ops:=[[],[],[{},{},t2_,t1_],[{},t1_],[t1_,t1_,t1_,{ takes:=[false,true,true,true],mode:=1 }],[{},t1_],[t1_,t1_,t1_,{ takes:=[false,true,true,true],mode:=1 }],[{},t1_],[{},{},{},{ takes:=[false,true,true,true],mode:=1 }],[t1_,t1_,t1_],[{},{},{},{ takes:=[false,true,true,true],mode:=1 },t1_,{},t1_,t1_,t1_],[{},t1_],[{},{},{},{ takes:=[false,true,true,true],mode:=1 }],[{},t1_,t1_,{},t2_,t2_,t1_],[],[{},t1_,{},t2_,t1_,t1_,t1_,t2_],[{},{},{},{ takes:=[false,true,true,true],mode:=1 }],[{},t1_,t1_,{},{},t1_,t2_,t1_,{},{},t2_,t1_,{ mode:=3 },t1_,{ takes:=[false,true] }],[{},t1_,{},t1_,{ takes:=[false,true,true,true,true],mode:=1 },t1_],[t1_,t1_],[{},{},{},t1_,{ takes:=[false,true,true,true,true],mode:=1 },t1_,{},t1_,t1_,t1_],[t1_,t1_],[{},{},t2_,{},{},t2_,t1_,t1_],[t1_,t1_,t1_],[{},{},t2_],[t1_,t1_,t2_,t1_],[{},t1_,{},{},{ takes:=[false,true,true,true,true],mode:=1 }],[t1_,t1_,t1_],[t1_,t1_,t2_,t1_],[{},{},t1_,t1_,{},{ takes:=[false,true,true,true,true],mode:=1 }],[t1_,t1_]],keepL:=[(0,[i_,i_,i_,i_,o_,o_,o_,o_,i_,i_,o_,o_,o_,o_,o_,o_,o_,o_,o_,o_,o_,o_,o_,o_,o_,o_,o_,o_,o_,o_,o_,o_,o_,o_,o_,o_,o_,o_,o_,o_,o_,o_,o_,o_,o_,o_,o_,o_,o_,o_,o_,o_,o_,o_,o_,o_,o_,o_,o_,o_,o_,o_,o_,o_,o_,o_,o_,o_,o_,o_,o_,o_,o_,o_,o_,o_,o_,o_,o_,o_,o_,o_,o_,o_,o_,o_,o_,o_,o_,o_,o_,o_,o_,o_,o_,o_,o_,o_,o_,o_,o_,o_,o_,o_,o_,o_,o_,o_,o_,o_,o_,o_,o_,o_,o_,o_,o_,o_,o_,o_,o_,o_,o_,o_,o_,o_,o_,o_,o_,o_,o_,o_,o_,o_])] }
def ann106:FAnn:={ ops:=[[],[t1_,t1_,{ mode:=3 },t1_],[t1_,{ mode:=3 },t1_]] }
def ann107:FAnn:={ ops:=[[{},t1_,t1_,t1_,{ takes:=[false,true,true,true],mode:=1 }]] }
def ann108:FAnn:={ ops:=[[t1_,t1_,t1_,t1_],[],[{},{},t1_,{},t1_,{ takes:=[false,true] }],[t1_,t1_,{},t2_,t1_,{},t1_,{ takes:=[true,true],mode:=1 },t1_,t2_],[t1_,t1_]],keepL:=[(0,[i_,o_,i_,o_,o_,o_,o_,o_,o_,i_,i_,i_,o_,o_,o_,o_,o_,o_,o_,o_,o_,o_,o_,o_,o_,o_,o_])] }
def ann109:FAnn:={ ops:=[[t1_],[t1_],[t1_],[{ mode:=1 },t1_,t1_,t2_,{ takes:=[true,true],mode:=1 }],[{ takes:=[true],mode:=1 },t1_]] }
def ann110:FAnn:={ ops:=[[{},t1_,t1_],[{},{},t2_],[t1_,t1_,t1_],[{},t1_],[{},{},t2_,t1_,{},{},t2_,t1_,{},{},t1_,t2_,t1_,{ mode:=3 },{ takes:=[false,true] }],[t1_,t1_,t1_],[{},{},{},{},t1_,{},{},t1_,t2_,t1_,{},{},t2_,t1_,t2_,t2_,t2_,t2_]],keepL:=[(0,[i_,i_,i_,o_,o_,o_,i_,o_,o_,o_,o_,o_,o_,o_,o_,o_,o_,o_,o_,o_,o_,o_,o_,o_,o_,o_,o_,o_,o_,o_,o_,o_,o_,o_,o_,o_,o_,o_,o_,o_,o_,o_,o_,o_,o_,o_,o_,o_,o_]),(2,[i_,i_,i_,o_,o_,o_,i_,i_,o_,o_,o_,o_,o_,o_,o_,o_,o_,o_,o_,o_,o_,o_,o_,o_,o_,o_,o_,o_,o_,o_,o_,o_,o_,o_,o_,o_,o_,o_,o_,o_,o_,o_,o_,o_,o_,o_,o_,o_,o_])] }
def ann111:FAnn:={ ops:=[[],[],[],[],[],[],[],[],[],[],[{},{},{},{},{},t2_,{},{},{},t2_,t2_,t1_,{},{},t2_,t1_,t2_,t2_,t2_,t2_]] }
def ann112:FAnn:={ ops:=[[t1_,{},t2_,t1_],[{},t1_],[{},t1_,{},{ takes:=[false,true] }],[{},{ mode:=3 },t1_],[{},{},t1_,t1_,t2_,t1_,t1_],[{},{},{},t1_,t1_,t2_,t1_,t2_],[t1_,t1_,t1_],[{ mode:=1 },{},t1_,t2_,t1_,t1_],[{},{},t2_],[t1_,{},t2_,t1_],[{},{},{},{},{},t2_,{},{},{},t2_,t2_,t1_,{},{},t2_,t1_,t2_,t2_,t2_,t2_]],keepL:=[(0,[i_,i_,o_,o_,o_,o_,i_,i_,i_,i_,o_,o_,o_,o_,o_,o_,o_,o_,o_,o_,o_,o_,o_,o_,o_,o_,o_,o_,o_,o_,o_,o_,o_,o_,o_,o_,o_,o_,o_,o_,o_,o_,o_,o_,o_,o_,o_,o_,o_,o_,o_,o_,o_,o_,o_,o_,o_,o_,o_,o_,o_,o_,o_,o_,o_])] }
def ann113:FAnn:={ ops:=[[],[t1_,{},t2_,t1_],[],[{},{},t1_,t1_,t2_,t1_],[{},{},t1_,t1_,t2_,t1_],[t1_,{},t1_,t1_,t2_,t1_],[{},t1_],[t1_,t1_],[{},t1_,{ takes:=[false,true,true],mode:=1 },t1_],[{},t1_,{ takes:=[false,true,true],mode:=1 },t1_],[{},t1_,{ takes:=[false,true,true],mode:=1 },t1_],[t1_,t1_,t1_,t1_,{ takes:=[false,true,true,true,true],mode:=1 },t1_],[t1_],[t1_,t1_],[{},t1_],[t1_,t1_],[t1_,t1_],[t1_,t1_]] }
def ann114:FAnn:={ ops:=[[t1_,t1_],[t1_,t1_,t1_],[{},{},t2_],[{},{},{},{},{},{},t2_,t1_,{},{},t2_,t1_,t2_,t2_,t2_,t2_],[t1_,t1_,t1_],[t1_,t1_,t1_]],keepL:=[(0,[i_,o_,o_,o_,o_,o_,i_,i_,o_,o_,o_,o_,o_,o_,o_,o_,o_,o_,o_,o_,o_,o_,o_,o_,o_,o_,o_,o_,o_,o_,o_,o_])] }
def ann115:FAnn:={ ops:=[[],[],[],[],[],[{},{},t2_,t1_,{},{},t2_,t1_,{},{},t1_,t2_,t1_,{ mode:=3 },t1_,{ takes:=[false,true] }],[],[],[],[],[],[{},{},{},{},t1_,{},{},t1_,t2_,t1_,{},{},t2_,t1_,t2_,t2_,t2_,t2_],[],[],[],[],[{},{},t2_,t1_,{},{},t1_,t2_,t1_,{ mode:=3 },t1_],[{},{},{},{},t1_,{},{},t1_,t2_,t1_,{},{},t2_,t1_,t2_,t2_,t2_,t2_],[],[],[],[],[{},{},t2_,t1_,{},{},t1_,t2_,t1_,{ mode:=3 },t1_],[{},{},{},{},t1_,{},{},t1_,t2_,t1_,{},{},t2_,t1_,t2_,t2_,t2_,t2_]] }
def ann116:FAnn:={ ops:=[[],[{},{ mode:=3 },t1_,{},{ mode:=3 },t1_,t2_,t1_,t1_,t1_,t2_,{ takes:=[true,false,true] },t1_]] }
def ann117:FAnn:={ ops:=[[],[{},{},{},{},{},{},t2_,t1_,{},{},t2_,t1_,t2_,t2_,t2_,t2_],[],[{},{},t2_,t1_,{},{},t2_,t1_,{},{},t2_,t1_,{ mode:=3 },t1_,{ takes:=[false,true] }],[],[{},{},t2_,t1_,{},{},t2_,t1_,{},{},t2_,t1_,{ mode:=3 },{ takes:=[false,true] }],[],[],[{},{},{},{},{},{},t2_,t1_,{},{},t2_,t1_,t2_,t2_,t2_,t2_]] }
def ann118:FAnn:={ ops:=[[],[{},{},{},{},{},{},t2_,t1_,{},{},t2_,t1_,t2_,t2_,t2_,t2_],[],[{},{},t2_,t1_,{},{},t2_,t1_,{},{},t2_,t1_,{ mode:=3 },{ takes:=[false,true] }],[],[{},{},t2_,t1_,{},{},t2_,t1_,{},{},t2_,t1_,{ mode:=3 },t1_,{ takes:=[false,true] }],[],[],[{},{},{},{},{},{},t2_,t1_,{},{},t2_,t1_,t2_,t2_,t2_,t2_],[],[{},{},{},{},{},{},t2_,t1_,{},{},t2_,t1_,t2_,t2_,t2_,t2_],[],[],[{},{},t2_,t1_,{},{},t2_,t1_,{},{},t2_,t1_,{ mode:=3 },{ takes:=[false,true] }],[],[{},{},t2_,t1_,{},{},t2_,t1_,{},{},t2_,t1_,{ mode:=3 },t1_,{ takes:=[false,true] }],[],[],[{},{},{},{},{},{},t2_,t1_,{},{},t2_,t1_,t2_,t2_,t2_,t2_],[],[],[{},{},{},{},{},{},t2_,t1_,{},{},t2_,t1_,t2_,t2_,t2_,t2_]] }
def ann119:FAnn:={ ops:=[[],[{},t1_],[t1_,t1_,t1_],[],[{},t1_],[t1_,t1_,t1_],[t1_,t1_,t1_],[t1_,t1_,t1_,{ takes:=[false,true] },t1_,t2_,t1_]] }
def ann120:FAnn:={ ops:=[[],[{},t1_],[t1_,t1_,t1_],[],[{},t1_],[t1_,t1_,t1_],[t1_,t1_,t1_],[{},t1_],[t1_,t1_,t1_],[t1_,t1_,t1_],[t1_,t1_,t1_,{ takes:=[false,true] },t1_,t2_,t1_]] }
def ann121:FAnn:={ ops:=[[],[{},{},t1_],[{},{},t2_],[{},t1_,{},{},{ takes:=[false,true,true,true,true],mode:=1 }],[{},t1_],[t1_,{},t2_,t1_],[{},t1_,{},{},{ takes:=[false,true,true,true,true],mode:=1 }],[{},{},t2_],[{},{ takes:=[false,true] },{},t1_],[{},{},t2_],[{},{},t1_,{},t2_,{},{},{ takes:=[false,true,true,true,true,true],mode:=1 }],[{},t1_],[t1_,{},{ takes:=[false,true] },t2_,t1_],[{},{},t2_,t1_],[{},{},t2_],[{},t1_,t1_,{},{},{ takes:=[false,true,true,true,true,true],mode:=1 }],[t1_,t1_,t1_]],keepL:=[(0,[i_,i_,i_,o_,o_,o_,i_,i_,i_,o_,o_,o_,o_,o_,o_,o_,o_,o_,o_,o_,o_,o_,o_,o_,o_,o_,o_,o_,o_,o_,o_,o_,o_,o_,o_,o_,o_,o_,o_,o_,o_,o_,o_,o_,o_,o_,o_,o_,o_,o_,o_,o_,o_,o_,o_,o_,o_,o_,o_,o_,o_,o_,o_]),(2,[i_,i_,i_,o_,o_,o_,i_,o_,o_,o_,o_,o_,o_,o_,o_,o_,o_,o_,o_,o_,o_,o_,o_,o_,o_,o_,o_,o_,o_,o_,o_,o_,o_,o_,o_,o_,o_,o_,o_,o_,o_,o_,o_,o_,o_,o_,o_,o_,o_,o_,o_,o_,o_,o_,o_,o_,o_,o_,o_,o_,o_,o_,o_]),(4,[i_,i_,i_,o_,o_,o_,i_,i_,i_,o_,o_,o_,o_,o_,o_,o_,o_,o_,o_,o_,o_,o_,o_,o_,o_,o_,o_,o_,o_,o_,o_,o_,o_,o_,o_,o_,o_,o_,o_,o_,o_,o_,o_,o_,o_,o_,o_,o_,o_,o_,o_,o_,o_,o_,o_,o_,o_,o_,o_,o_,o_,o_,o_])] }
def ann122:FAnn:={ ops:=[[],[],[],[{},t1_,{},t2_,t1_,{},{},{},t2_,t2_,t1_,{},{},{},t2_,t1_,t2_,t1_,{ mode:=3 },{ takes:=[false,true] }],[],[{},{},{},t2_,t2_,t1_,{},{},{},t2_,t2_,t1_,{ mode:=3 },t1_],[{},{},{},t2_,{},{},{},t2_,{},{},{},t2_,t2_,t1_,{},{},{},t2_,t2_,t1_,t2_,t2_,t2_,t2_]] }
def ann123:FAnn:={ ops:=[[],[t1_,t1_,{ mode:=3 },{ takes:=[false,true] },t1_]] }
def ann124:FAnn:={ ops:=[[],[{},{},t1_,{},t1_,t1_,t1_,t2_,{},t2_],[{},{},t1_,{},t1_,t1_,t1_,t2_,{},t2_],[{},{},t1_,{},t1_,t1_,t1_,t2_,{},t2_],[t1_,t1_,t1_,t1_]] }
def ann125:FAnn:={ ops:=[[],[t1_,{},t1_,{},t1_,t1_,t1_,{ takes:=[false,true,true,true,true,true],mode:=1 },t1_]] }
def ann126:FAnn:={ ops:=[[],[{},t1_,t1_,{},{ takes:=[false,true,true,true,true],mode:=1 },t1_,{},t1_,t1_,t1_],[{},t1_,t1_,{},{ takes:=[false,true,true,true,true],mode:=1 },t1_,{},t1_,t1_,t1_],[t1_,t1_,t1_,t1_,{ takes:=[false,true,true,true,true],mode:=1 },t1_,{},t1_,t1_,t1_],[t1_,t1_]] }
def ann127:FAnn:={ ops:=[[],[{},t1_,t2_,t1_]] }
def ann128:FAnn:={ ops:=[[{},t1_,t1_],[{},{},t2_],[t1_,t1_,t1_],[{},t1_],[{},{},t2_,t1_,{},{},{},t2_,t1_,{},{},t1_,t2_,t1_,{ mode:=6 },t1_,{ takes:=[false,true] }],[t1_,t1_,t1_],[{},{},{},{},t1_,{},{},t1_,t2_,t1_,{},{},t2_,t1_,t2_,t2_,t2_,t2_]],keepL:=[(0,[i_,i_,i_,i_,o_,o_,o_,o_,i_,o_,o_,o_,o_,o_,o_,o_,o_,o_,o_,o_,o_,o_,o_,o_,o_,o_,o_,o_,o_,o_,o_,o_,o_,o_,o_,o_,o_,o_,o_,o_,o_,o_,o_,o_,o_,o_,o_,o_,o_,o_,o_,o_,o_]),(2,[i_,i_,i_,i_,o_,o_,o_,o_,i_,i_,o_,o_,o_,o_,o_,o_,o_,o_,o_,o_,o_,o_,o_,o_,o_,o_,o_,o_,o_,o_,o_,o_,o_,o_,o_,o_,o_,o_,o_,o_,o_,o_,o_,o_,o_,o_,o_,o_,o_,o_,o_,o_,o_])] }
def ann129:FAnn:={ ops:=[[],[],[],[],[],[{},{},{},t2_,t1_,{},{},t2_,t1_,{ mode:=6 },t1_],[],[],[],[],[],[{},{},{},{},t1_,{},{},t1_,t2_,t1_,{},{},t2_,t1_,t2_,t2_,t2_,t2_],[],[],[],[],[],[{},{},{},t2_,t1_,{},{},t2_,t1_,{ mode:=6 },t1_,t1_],[],[],[],[],[],[{},{},{},{},t1_,{},{},t1_,t2_,t1_,{},{},t2_,t1_,t2_,t2_,t2_,t2_],[],[],[],[],[],[],[],[],[],[],[],[{},{},{},{},t2_,t2_,t1_,{},{},t2_,t1_,{ mode:=6 },t1_,t1_]] }
def ann130:FAnn:={ ops:=[[],[{},{},t2_,t1_,{},{},t2_,t1_,{ mode:=3 }],[t1_,{},t1_,t1_,t1_,t2_],[t1_,t1_,t1_,t1_],[t1_,t1_,t1_,t1_]] }
def ann131:FAnn:={ ops:=[[{},t1_,t2_,t1_],[t1_,{},t2_,t1_],[{},{},t2_],[{},{},t2_],[{},{},{},t2_,{},{},{},{ takes:=[false,true,true,true,true,true],mode:=1 }],[t1_,{},t2_,t1_],[{},{},{},t2_,{},{},t2_,{},t2_,{},{},{ takes:=[false,true,true,true,true,true],mode:=1 }],[t1_,{},t2_,t1_],[t1_,{},{},t2_,t1_,t1_,t1_,{ takes:=[false,true,true,true,true,true],mode:=1 }]],keepL:=[(0,[i_,o_,i_,o_,i_,o_,o_,o_,o_,o_,i_,i_,o_,o_,o_,o_,o_,o_,o_,o_,o_,o_,o_,o_,o_,o_,o_,o_,o_,o_,o_,o_,o_,o_,o_,o_,o_,o_,o_,o_,o_,o_,o_,o_,o_,o_,o_,o_,o_,o_,o_,o_,o_,o_,o_,o_,o_,o_])] }
def ann132:FAnn:={ ops:=[[],[{},{},t2_],[t1_,t1_,t1_],[{},{},{},t2_,{},{},{},t2_,{},{},{},t2_,t2_,t1_,{},{},{},t2_,t2_,t1_,t2_,t2_,t2_,t2_]],keepL:=[(0,[i_,i_,i_,i_,o_,o_,o_,o_,o_,o_,i_,o_,o_,o_,o_,o_,o_,o_,o_,o_,o_,o_,o_,o_,o_,o_,o_,o_,o_,o_,o_,o_,o_,o_,o_,o_,o_,o_])] }
def annL:List FAnn:=[{},{},{},ann3,{},{},{},ann7,ann8,{},ann10,ann11,{},{},ann14,ann15,ann16,ann17,ann18,ann19,ann20,ann21,ann22,ann23,ann24,ann25,ann26,ann27,ann28,ann29,ann30,ann31,ann32,ann33,{},ann35,{},ann37,ann38,ann39,ann40,{},ann42,ann43,ann44,ann45,ann46,ann47,ann48,ann49,{},ann51,ann52,ann53,ann54,ann55,ann56,ann57,ann58,ann59,ann60,ann61,ann62,ann63,ann64,ann65,ann66,ann67,ann68,ann69,ann70,{},ann72,ann73,ann74,ann75,ann76,ann77,ann78,ann79,ann80,ann81,ann82,ann83,ann84,ann85,ann86,ann87,ann88,ann89,ann90,ann91,ann92,ann93,ann94,ann95,ann96,ann97,ann98,ann99,ann100,ann101,ann102,ann103,ann104,ann105,ann106,ann107,ann108,ann109,ann110,ann111,ann112,ann113,ann114,ann115,ann116,ann117,ann118,ann119,ann120,ann121,ann122,ann123,ann124,ann125,ann126,ann127,ann128,ann129,ann130,ann131,ann132]
def ann (k:FuncId):FAnn:=annL.getD k {}
end Go.Proofs.YtbnbjjgagikobaaGreat.Ab


namespace Go.Proofs.YtbnbjjgagikobaaGreat.Ab
open Go
end Go.Proofs.YtbnbjjgagikobaaGreat.Ab


namespace Go.Proofs.YtbnbjjgagikobaaGreat.Ab
open Go
noncomputable def rc74:RC :=
 .seq (.reg false [I_ 1 [.tk 0] .box,I_ 2 [.cv (.lst [] 0 .full)] (.nil 1)]) (.seq (.seq (.reg false [I_ 7 [.sl 1] (.ld .one),I_ 8 [.tv 7] .nilc,I_ 9 [.tv 8] (.fa 6),I_ 10 [.tv 9] (.ld (.arr 21)),I_ 11 [] (.build [.int .i64
 0,.int .i64 0,.int .i64 0,.int .i64 0,.int .i64 0,.int .i64 0,.int .i64 0,.int .i64 0,.int .i64 0,.int .i64 0,.int .i64 0,.int .i64 0,.int .i64 0,.int .i64 0,.int .i64 0,.int .i64 0,.int .i64 0,.int .i64 0,
 .int .i64 0, .int .i64 0, .int .i64 0] []), I_ 12 [.tv 10, .tv 11] (.other (Oper.mk (some 12) (Op.binOp .eql 77 (Operand.tmp 10) (Operand.tmp 11) 77) 4 "bench.go:108" (Array.mk [Edge.mk 3 Ground.data, Edge.mk 4 Ground.data])
 none) 0)]) (.cond (.sl 12) (.seq (.reg false [I_ 2 [.cv (.lst [] 0 .full)] (.nil 1)]) .ret) .skip)) (.seq (.reg false [I_ 3 [.cv (.lst [] 0 .full)] (.nil 1)]) (.seq (.seq (.reg false [I_ 13 [.sl 1] (.ld .one),I_ 14 [.tv 13]
 .nilc,I_ 15 [.tv 14] (.fa 6),I_ 16 [.tv 15] (.ld (.arr 21)),I_ 17 [.cv (.int .i64 0)] .mv]) (.block 0 (.loop (some [o_,i_,o_,i_,o_,o_,o_,o_,o_,o_,o_,o_,o_,o_,o_,o_,i_,i_,o_,o_,o_,o_,o_,o_,o_,o_,o_,o_,o_,o_,o_,o_,o_,o_,o_,o_,o_]) (.seq (.reg false [I_ 18 [.sl 17,.cv (.int .i64 21)] (.bin .lss)]) (.seq
 (.cond (.sl 18) .skip (.exit 0)) (.seq (.block 1 (.seq (.reg false [I_ 19 [.sl 17] .mv, I_ 20 [.sl 16, .sl 17] (.other (Oper.mk (some 20) (Op.index 77 (Operand.tmp 16) (Operand.tmp 17)) 3 "bench.go:112" (Array.mk []) none) 0),
 I_ 4 [.tk 19] .mv,I_ 5 [.tk 20] .mv]) (.seq (.reg false [I_ 21 [.tk 5] .mv,I_ 22 [.tv 21,.cv (.int .i64 0)] (.bin .gtr)]) (.cond (.sl 22) (.reg false [I_ 23 [.tk 3] .mv,I_ 24 [.tk 4] .mv,I_ 25 [.tv 24] (.buildS 1 1 [.int
 .i64 0] [0]),I_ 26 [.tk 23,.tk 25] (.app 1 8),I_ 3 [.tk 26] .mv]) .skip)))) (.reg false [I_ 27 [.tv 17,.cv (.int .i64 1)] (.bin .add),I_ 17 [.tk 27] .mv]))))))) (.seq (.reg false [I_ 28 [.sl 3] .mv,I_ 29 [.cv (.func 94 []
 []),.sl 28] (.call 0),I_ 6 [.tk 29] .mv]) (.seq (.reg false [⟨some 30,[.tk 6],none,some 6,.thaw⟩,I_ 31 [.cv (.func 95 [] []),.tk 30] (.call 1)]) (.seq (.reg false [I_ 32 [.tk 3] .mv,⟨some 33,[.tk 6],none,some 6,
 .other (Oper.mk (some 33) (Op.move (Operand.tmp 6)) 22 "bench.go:119" (Array.mk []) none) 2⟩, I_ 34 [.tv 32, .tv 33] (.buildS 2 1 [.lst [] 0 .full] [0, 1]), I_ 35 [.tv 1] (.mkF 97 0 1), I_ 36 [.cv (.func 96 [] []), .sl 34, .sl
 35] (.call 0),I_ 2 [.tk 36] .mv]) .ret))))))
theorem lk74:linkF Go.Proofs.Tryz.prog ann74 74=some (rc74,37,[.tmp 2]):=by kernel_rfl
noncomputable def rc76:RC :=
 .seq (.reg false [I_ 4 [.cv (.lst [] 0 .full)] (.nil 1)]) (.seq (.reg false [I_ 6 [.sl 0] .mv,I_ 7 [.tv 6] (.mkF 92 1 0),I_ 5 [] (.alloc [.junk]),⟨none,[.sl 5,.tk 7],none,none,.st 1⟩]) (.seq (.reg false [I_ 8 [.tk 0] .mv,
 I_ 9 [.tk 1] .mv,I_ 10 [.cv (.func 100 [] []),.sl 8,.sl 9] (.call 3),I_ 11 [.tv 5] (.mkF 101 0 1),I_ 12 [.cv (.func 99 [] []),.sl 10,.sl 11] (.call 0),I_ 4 [.tk 12] .mv]) .ret))
theorem lk76:linkF Go.Proofs.Tryz.prog ann76 76=some (rc76,13,[.tmp 4]):=by kernel_rfl
noncomputable def rc77:RC :=
 .seq (.reg false [I_ 2 [.cv (.lst [] 0 .full)] (.nil 1)]) (.seq (.reg false [I_ 4 [.tk 0] .mv,I_ 5 [.cv (.func 102 [] []),.sl 4] (.call 0),I_ 3 [.tk 5] .mv]) (.seq (.reg false [⟨some 6,[.tk 3],none,some 3,.thaw⟩,I_ 7 [.cv
 (.func 84 [] []), .tk 6] (.call 1)]) (.seq (.reg false [⟨some 8, [.tk 3], none, some 3, .other (Oper.mk (some 8) (Op.move (Operand.tmp 3)) 22 "iter.go:69" (Array.mk []) none) 2⟩, I_ 2 [.tk 8] .mv]) .ret)))
theorem lk77:linkF Go.Proofs.Tryz.prog ann77 77=some (rc77,9,[.tmp 2]):=by kernel_rfl
noncomputable def rc84:RC :=
 .seq (.reg false [I_ 3 [.sl 0] .mv,I_ 4 [.tk 3] .lenS,I_ 2 [.tk 4] .mv]) (.reg false [I_ 5 [.tk 0] .mv,I_ 6 [.sl 2] .mv,I_ 7 [.tk 2] .mv,I_ 8 [.tv 7] (.conv .u64),I_ 9 [.cv (.func 106 [] []),.sl 8] (.call 3),I_ 10 [.cv
 (.func 105 [] []),.tk 5,.cv (.int .i64 0),.tk 6,.tk 9] (.call 1)])
theorem lk84:linkF Go.Proofs.Tryz.prog ann84 84=some (rc84,11,[]):=by kernel_rfl
noncomputable def rc94:RC :=
 .seq (.reg false [I_ 2 [.cv (.lst [] 0 .full)] (.nil 1)]) (.seq (.seq (.reg false [I_ 3 [.sl 0] .mv,I_ 4 [.tv 3,.cv (.lst [] 0 .full)] (.other (Oper.mk (some 4) (Op.binOp .eql 22 (Operand.tmp 3) (Operand.const (Value.slice none
 0 0)) 22) 4 "slices.go:357" (Array.mk [Edge.mk 0 Ground.data]) none) 0)]) (.cond (.sl 4) (.seq (.reg false [I_ 2 [.cv (.lst [] 0 .full)] (.nil 1)]) .ret) .skip)) (.seq (.reg false [I_ 5 [] (.buildS 0 1 [.int .i64 0] []), I_ 6
 [.tk 0] .mv,I_ 7 [.tk 5,.tk 6] (.app 1 8),I_ 2 [.tk 7] .mv]) .ret))
theorem lk94:linkF Go.Proofs.Tryz.prog ann94 94=some (rc94,8,[.tmp 2]):=by kernel_rfl
noncomputable def rc95:RC :=
 .seq (.reg false [I_ 4 [.sl 0] .mv,I_ 5 [.tk 4] .lenS,I_ 6 [.tv 5,.cv (.int .i64 1)] (.bin .sub),I_ 2 [.cv (.int .i64 0)] .mv,I_ 3 [.tk 6] .mv]) (.block 0 (.loop (some [i_,o_,i_,i_,o_,o_,o_,o_,o_,o_,o_,o_,o_,o_,o_,o_,o_,o_,o_,o_,o_,o_,o_,o_,o_,o_,o_,o_]) (.seq (.seq (.reg false [I_ 7 [.sl 2] .mv,I_ 8 [.sl 3] .mv,I_ 9 [.tv 7,.tv 8] (.bin
 .lss)]) (.cond (.sl 9) .skip (.exit 0))) (.seq (.block 1 (.reg true [I_ 14 [.sl 0] .mv,I_ 15 [.sl 2] .mv,I_ 16 [.sl 0] .mv,I_ 17 [.sl 3] .mv,I_ 18 [.sl 0] .mv,I_ 19 [.sl 3] .mv,I_ 20 [.tv 18,.tv 19] (.ia 1),I_ 21 [.tv
 20] (.ld .one),I_ 22 [.sl 0] .mv,I_ 23 [.sl 2] .mv,I_ 24 [.tv 22,.tv 23] (.ia 1),I_ 25 [.tv 24] (.ld .one),I_ 26 [.tv 14,.tv 15] (.ia 1),⟨none,[.tk 26,.tk 21],none,none,.st 1⟩,I_ 27 [.tv 16,.tv 17] (.ia 1),
 ⟨none,[.tk 27,.tk 25],none,none,.st 1⟩])) (.reg false [I_ 10 [.tk 2] .mv,I_ 11 [.tv 10,.cv (.int .i64 1)] (.bin .add),I_ 12 [.tk 3] .mv,I_ 13 [.tv 12,.cv (.int .i64 1)] (.bin .sub),I_ 2 [.tk 11] .mv,I_ 3 [.tk 13]
 .mv])))))
theorem lk95:linkF Go.Proofs.Tryz.prog ann95 95=some (rc95,28,[]):=by kernel_rfl
noncomputable def rc96:RC :=
 .seq (.reg false [I_ 4 [.cv (.lst [] 0 .full)] (.nil 1)]) (.seq (.reg false [I_ 8 [.sl 0] .mv,I_ 9 [.tv 8,.cv (.int .i64 0)] (.ia 1),I_ 10 [.tv 9] (.ld .one),I_ 5 [.tk 10] .mv]) (.seq (.seq (.reg false [I_ 11 [.tk 0] .mv,I_
 12 [.tk 11,.cv (.int .i64 1)] (.slS 1 true false false),I_ 13 [.sl 12] .lenS,I_ 14 [.cv (.int .i64 0)] .mv]) (.block 0 (.loop (some [o_,i_,o_,o_,o_,i_,o_,o_,o_,o_,o_,o_,i_,i_,i_,o_,o_,o_,o_,o_,o_,o_,o_,o_,o_]) (.seq (.reg false [I_ 15 [.sl 14,.sl 13] (.bin .lss)]) (.seq (.cond (.sl 15) .skip (.exit 0)) (.seq (.block 1 (.seq (.reg false [I_ 16 [.sl 12,
 .sl 14] (.ia 1),I_ 17 [.tv 16] (.ld .one),I_ 7 [.tk 17] .mv]) (.seq (.reg false [I_ 18 [.sl 1] .mv,I_ 19 [.sl 7] .mv,I_ 20 [.sl 5] .mv,I_ 21 [.sl 18,.sl 19,.sl 20] (.call 6)]) (.cond (.sl 21) (.reg false [I_ 22 [.tk 7]
 .mv,I_ 5 [.tk 22] .mv]) .skip)))) (.reg false [I_ 23 [.tv 14,.cv (.int .i64 1)] (.bin .add),I_ 14 [.tk 23] .mv]))))))) (.seq (.reg false [I_ 24 [.tk 5] .mv,I_ 4 [.tk 24] .mv]) .ret)))
theorem lk96:linkF Go.Proofs.Tryz.prog ann96 96=some (rc96,25,[.tmp 4]):=by kernel_rfl
noncomputable def rc97:RC :=
 .seq (.reg false [I_ 5 [.cv (.bool false)] .mv]) (.seq (.reg true [I_ 6 [.sl 2] (.ld .one),I_ 7 [.tv 6] .nilc,I_ 8 [.tv 7] (.fa 0),I_ 9 [.tv 8] (.fa 2),I_ 10 [.tv 9] (.ld .one),I_ 11 [.tk 0] .mv,I_ 12 [.tv 11,.cv (.int
 .i64 0)] (.ia 1),I_ 13 [.tv 12] (.ld .one),I_ 14 [.cv (.func 93 [] []),.sl 10,.sl 13] (.call 3),I_ 15 [.sl 2] (.ld .one),I_ 16 [.tv 15] .nilc,I_ 17 [.tv 16] (.fa 0),I_ 18 [.tv 17] (.fa 2),I_ 19 [.tv 18] (.ld .one),I_
 20 [.tk 1] .mv,I_ 21 [.tv 20,.cv (.int .i64 0)] (.ia 1),I_ 22 [.tv 21] (.ld .one),I_ 23 [.cv (.func 93 [] []),.sl 19,.sl 22] (.call 3),I_ 24 [.tv 14,.tv 23] (.bin .lss),I_ 5 [.tk 24] .mv]) .ret)
theorem lk97:linkF Go.Proofs.Tryz.prog ann97 97=some (rc97,25,[.tmp 5]):=by kernel_rfl
noncomputable def rc98:RC :=
 .seq (.reg false [I_ 4 [.cv (.int .i64 0)] .mv]) (.block 0 (.loop (some [i_,i_,i_,o_,i_,o_,o_,o_,o_,o_,o_,o_,o_,o_,o_,o_,o_,o_,o_,o_,o_,o_,o_,o_,o_,o_,o_,o_,o_,o_,o_]) (.seq (.seq (.reg false [I_ 6 [.sl 4] .mv,I_ 7 [.sl 1] (.ld .one),I_ 8 [.tk 7] .lenS,I_ 9 [.tv 6,.tv 8] (.bin .lss)]) (.cond (.sl 9) .skip (.exit 0))) (.seq (.block 1
 (.seq (.reg true [I_ 13 [.sl 2] (.ld .one),I_ 14 [.sl 1] (.ld .one),I_ 15 [.sl 4] .mv,I_ 16 [.tk 14,.tk 15] (.slS 1 true false false),I_ 17 [.tk 16] .lenS,I_ 18 [.tk 13,.tk 17] .min,I_ 5 [.tk 18] .mv]) (.seq (.reg false
 [I_ 19 [.sl 0] .mv,I_ 20 [.sl 1] (.ld .one),I_ 21 [.sl 4] .mv,I_ 22 [.sl 4] .mv,I_ 23 [.sl 5] .mv,I_ 24 [.tv 22,.tv 23] (.bin .add),I_ 25 [.sl 4] .mv,I_ 26 [.tk 5] .mv,I_ 27 [.tv 25,.tv 26] (.bin .add),I_ 28 [.tk 20,
 .tk 21,.tk 24,.tk 27] (.slS 1 true true true),I_ 29 [.tk 19,.tk 28] (.call 1),I_ 30 [.tv 29] (.un .not)]) (.cond (.sl 30) .ret .skip)))) (.reg false [I_ 10 [.tk 4] .mv,I_ 11 [.sl 2] (.ld .one),I_ 12 [.tv 10,.tv 11]
 (.bin .add),I_ 4 [.tk 12] .mv])))))
theorem lk98:linkF Go.Proofs.Tryz.prog ann98 98=some (rc98,31,[]):=by kernel_rfl
noncomputable def rc99:RC :=
 .seq (.reg false [I_ 4 [.cv (.lst [] 0 .full)] (.nil 1)]) (.seq (.reg false [I_ 6 [.tk 0] .mv,I_ 7 [.cv (.func 102 [] []),.sl 6] (.call 0),I_ 5 [.tk 7] .mv]) (.seq (.reg false [⟨some 8,[.tk 5],none,some 5,.thaw⟩,I_ 9 [.tk
 1] .mv, I_ 10 [.cv (.func 107 [] []), .tk 8, .tk 9] (.call 1)]) (.seq (.reg false [⟨some 11, [.tk 5], none, some 5, .other (Oper.mk (some 11) (Op.move (Operand.tmp 5)) 22 "iter.go:89" (Array.mk []) none) 2⟩, I_ 4 [.tk 11] .mv])
 .ret)))
theorem lk99:linkF Go.Proofs.Tryz.prog ann99 99=some (rc99,12,[.tmp 4]):=by kernel_rfl
noncomputable def rc101:RC :=
 .seq (.reg false [I_ 5 [.cv (.int .i64 0)] .mv]) (.seq (.block 0 (.seq (.reg false [I_ 7 [.sl 2] (.ld .one),I_ 8 [.sl 0] .mv,I_ 9 [.sl 1] .mv,I_ 10 [.sl 7,.sl 8,.sl 9] (.call 3),I_ 6 [.tk 10] .mv]) (.cond (.sl 6) (.seq
 (.reg false [I_ 5 [.cv (.int .i64 (-1))] .mv]) .ret) (.seq (.reg false [I_ 12 [.tv 2] (.ld .one),I_ 13 [.tk 1] .mv,I_ 14 [.tk 0] .mv,I_ 15 [.sl 12,.sl 13,.sl 14] (.call 3),I_ 11 [.tk 15] .mv]) (.cond (.sl 11) (.seq (.reg
 false [I_ 5 [.cv (.int .i64 1)] .mv]) .ret) .skip))))) (.seq (.reg false [I_ 5 [.cv (.int .i64 0)] .mv]) .ret))
theorem lk101:linkF Go.Proofs.Tryz.prog ann101 101=some (rc101,16,[.tmp 5]):=by kernel_rfl
noncomputable def rc102:RC :=
 .seq (.reg false [I_ 2 [.cv (.lst [] 0 .full)] (.nil 1)]) (.seq (.reg false [I_ 3 [.tk 0] .mv,I_ 4 [.cv (.func 109 [] []),.cv (.lst [] 0 .full),.sl 3] (.call 0),I_ 2 [.tk 4] .mv]) .ret)
theorem lk102:linkF Go.Proofs.Tryz.prog ann102 102=some (rc102,5,[.tmp 2]):=by kernel_rfl
noncomputable def rc103:RC :=
 .seq (.reg false [I_ 5 [.tv 1] (.ld .one),I_ 6 [.sl 5] .lenS,I_ 7 [.cv (.int .i64 0)] .mv]) (.block 0 (.loop (some [i_,o_,o_,o_,o_,i_,i_,i_,o_,o_,o_,o_,o_,o_,o_,o_])
 (.seq (.reg false [I_ 8 [.sl 7,.sl 6] (.bin .lss)]) (.seq (.cond (.sl 8) .skip (.exit 0)) (.seq (.block 1 (.seq (.reg false [I_ 9 [.sl 5,.sl 7] (.ia 1),I_ 10 [.tv 9] (.ld .one),I_ 4 [.tk 10] .mv]) (.seq (.reg false [I_ 11
 [.sl 0] .mv,I_ 12 [.tk 4] .mv,I_ 13 [.tk 11,.tk 12] (.call 1),I_ 14 [.tv 13] (.un .not)]) (.cond (.sl 14) .ret .skip)))) (.reg false [I_ 15 [.tv 7,.cv (.int .i64 1)] (.bin .add),I_ 7 [.tk 15] .mv]))))))
theorem lk103:linkF Go.Proofs.Tryz.prog ann103 103=some (rc103,16,[]):=by kernel_rfl
noncomputable def rc107:RC :=
 .reg false [I_ 4 [.sl 0] .mv,I_ 5 [.tk 0] .mv,I_ 6 [.tk 5] .lenS,I_ 7 [.tk 1] .mv,I_ 8 [.cv (.func 121 [] []),.tk 4,.tk 6,.tk 7] (.call 1)]
theorem lk107:linkF Go.Proofs.Tryz.prog ann107 107=some (rc107,9,[]):=by kernel_rfl
noncomputable def rc108:RC :=
 .seq (.reg false [I_ 6 [.tv 1] (.ld .one),I_ 7 [.tv 6] .nilc,I_ 8 [.tv 7] (.fa 4),I_ 9 [.tv 8] (.ld .one),I_ 10 [.sl 9] .lenS,I_ 11 [.cv (.int .i64 0)] .mv]) (.block 0 (.loop (some [i_,o_,i_,o_,o_,o_,o_,o_,o_,i_,i_,i_,o_,o_,o_,o_,o_,o_,o_,o_,o_,o_,o_,o_,o_,o_,o_]) (.seq (.reg false [I_ 12 [.sl 11,.sl 10] (.bin .lss)]) (.seq (.cond (.sl 12)
 .skip (.exit 0)) (.seq (.block 1 (.seq (.reg false [I_ 13 [.sl 11] .mv,I_ 14 [.sl 9,.sl 11] (.ia 2),I_ 15 [.tv 14] (.ld (.str 2)),I_ 5 [] (.alloc [.int .i64 0,.int .i64 0]),I_ 4 [.tk 13] .mv,⟨none,[.sl 5,.tk 15],none,
 none,.st 2⟩]) (.seq (.reg false [I_ 16 [.tv 5] (.fa 0),I_ 17 [.tv 16] (.ld .one),I_ 18 [.sl 2] (.ld .one),I_ 19 [.tv 17,.tv 18] (.bin .eql),I_ 20 [.tk 19] .mv,⟨some 21,[.sl 0],some (20,true),none,.mv⟩,⟨some 22,
 [.tk 4],some (20,true),none,.mv⟩,⟨some 23,[.tk 21,.tk 22],some (20,true),none,.call 1⟩,⟨some 24,[.tv 23],some (20,true),none,.un .not⟩,I_ 25 [.tv 20,.tv 24,.cv (.bool false)] .pick]) (.cond (.sl 25) .ret
 .skip)))) (.reg false [I_ 26 [.tv 11,.cv (.int .i64 1)] (.bin .add),I_ 11 [.tk 26] .mv]))))))
theorem lk108:linkF Go.Proofs.Tryz.prog ann108 108=some (rc108,27,[]):=by kernel_rfl
noncomputable def rc109:RC :=
 .seq (.reg false [I_ 2 [.tk 0] .box,I_ 4 [.cv (.lst [] 0 .full)] (.nil 1)]) (.seq (.seq (.reg false [I_ 6 [.tk 1] .mv]) (.block 0 (.rng (.sl 6) [7] (rngA Go.Proofs.Tryz.prog 109 0) (rngB Go.Proofs.Tryz.prog 109 0)))) (.seq (.reg
 false [I_ 12 [.tv 2] .take,I_ 4 [.tk 12] .mv]) .ret))
theorem lk109:linkF Go.Proofs.Tryz.prog ann109 109=some (rc109,13,[.tmp 4]):=by kernel_rfl
noncomputable def rc110:RC :=
 .seq (.reg false [I_ 8 [.sl 1] .mv,I_ 9 [.tv 8,.cv (.int .i64 1)] (.bin .add),I_ 6 [.tk 9] .mv]) (.block 0 (.loop (some [i_,i_,i_,o_,o_,o_,i_,o_,o_,o_,o_,o_,o_,o_,o_,o_,o_,o_,o_,o_,o_,o_,o_,o_,o_,o_,o_,o_,o_,o_,o_,o_,o_,o_,o_,o_,o_,o_,o_,o_,o_,o_,o_,o_,o_,o_,o_,o_,o_]) (.seq (.seq (.reg false [I_ 10 [.sl 6] .mv,I_ 11 [.sl 2] .mv,I_ 12 [.tv 10,.tv 11] (.bin .lss)]) (.cond (.sl 12) .skip (.exit 0))) (.seq (.block 1 (.seq (.reg false [I_ 15 [.sl 6] .mv,I_ 7 [.tk 15] .mv])
 (.block 2 (.loop (some [i_,i_,i_,o_,o_,o_,i_,i_,o_,o_,o_,o_,o_,o_,o_,o_,o_,o_,o_,o_,o_,o_,o_,o_,o_,o_,o_,o_,o_,o_,o_,o_,o_,o_,o_,o_,o_,o_,o_,o_,o_,o_,o_,o_,o_,o_,o_,o_,o_]) (.seq (.seq (.reg true [I_ 16 [.sl 7] .mv,I_ 17 [.sl 1] .mv,I_ 18 [.tv 16,.tv 17]
 (.bin .gtr),I_ 19 [.tk 18] .mv,⟨some 20,[.sl 0],some (19,true),none,.mv⟩,⟨some 21,[.sl 7],some (19,true),none,.mv⟩,⟨some 22,[.tv 20,.tv 21],some (19,true),none,.ia 1⟩,⟨some 23,[.tv 22],some (19,true),
 none,.ld .one⟩,⟨some 24,[.sl 0],some (19,true),none,.mv⟩,⟨some 25,[.sl 7],some (19,true),none,.mv⟩,⟨some 26,[.tv 25,.cv (.int .i64 1)],some (19,true),none,.bin .sub⟩,⟨some 27,[.tv 24,.tv 26],some (19,
 true),none,.ia 1⟩,⟨some 28,[.tv 27],some (19,true),none,.ld .one⟩,⟨some 29,[.cv (.func 116 [] []),.sl 23,.sl 28],some (19,true),none,.call 3⟩,I_ 30 [.sl 19,.tv 29,.cv (.bool false)] .pick]) (.cond (.sl 30)
 .skip (.exit 2))) (.seq (.block 3 (.reg true [I_ 33 [.sl 0] .mv,I_ 34 [.sl 7] .mv,I_ 35 [.sl 0] .mv,I_ 36 [.sl 7] .mv,I_ 37 [.tv 36,.cv (.int .i64 1)] (.bin .sub),I_ 38 [.sl 0] .mv,I_ 39 [.sl 7] .mv,I_ 40 [.tv 39,.cv
 (.int .i64 1)] (.bin .sub),I_ 41 [.tv 38,.tv 40] (.ia 1),I_ 42 [.tv 41] (.ld .one),I_ 43 [.sl 0] .mv,I_ 44 [.sl 7] .mv,I_ 45 [.tv 43,.tv 44] (.ia 1),I_ 46 [.tv 45] (.ld .one),I_ 47 [.tv 33,.tv 34] (.ia 1),⟨none,[.tk
 47,.tk 42],none,none,.st 1⟩,I_ 48 [.tv 35,.tv 37] (.ia 1),⟨none,[.tk 48,.tk 46],none,none,.st 1⟩])) (.reg false [I_ 31 [.tk 7] .mv,I_ 32 [.tv 31,.cv (.int .i64 1)] (.bin .sub),I_ 7 [.tk 32] .mv]))))))) (.reg
 false [I_ 13 [.tk 6] .mv,I_ 14 [.tv 13,.cv (.int .i64 1)] (.bin .add),I_ 6 [.tk 14] .mv])))))
theorem lk110:linkF Go.Proofs.Tryz.prog ann110 110=some (rc110,49,[]):=by kernel_rfl
noncomputable def rc116:RC :=
 .seq (.reg false [I_ 4 [.cv (.bool false)] .mv]) (.seq (.reg false [I_ 5 [.sl 0] .mv,I_ 6 [.cv (.func 127 [] []),.sl 5] (.call 3),I_ 7 [.tk 6] .mv,⟨some 8,[.sl 1],some (7,true),none,.mv⟩,⟨some 9,[.cv (.func 127 [] []),
 .sl 8],some (7,true),none,.call 3⟩,⟨some 10,[.tv 9],some (7,true),none,.un .not⟩,I_ 11 [.tv 7,.tv 10,.cv (.bool false)] .pick,I_ 12 [.tk 11] .mv,⟨some 13,[.tk 0],some (12,false),none,.mv⟩,⟨some 14,[.tk 1],
 some (12,false),none,.mv⟩,⟨some 15,[.tv 13,.tv 14],some (12,false),none,.bin .lss⟩,I_ 16 [.tv 12,.cv (.bool true),.tv 15] .pick,I_ 4 [.tk 16] .mv]) .ret)
theorem lk116:linkF Go.Proofs.Tryz.prog ann116 116=some (rc116,17,[.tmp 4]):=by kernel_rfl
noncomputable def rc121:RC :=
 .seq (.reg false [I_ 6 [.cv (.int .i64 20)] .mv]) (.seq (.reg false [I_ 10 [.sl 6] .mv,I_ 7 [.cv (.int .i64 0)] .mv,I_ 8 [.tk 10] .mv]) (.seq (.block 0 (.loop (some [i_,i_,i_,o_,o_,o_,i_,i_,i_,o_,o_,o_,o_,o_,o_,o_,o_,o_,o_,o_,o_,o_,o_,o_,o_,o_,o_,o_,o_,o_,o_,o_,o_,o_,o_,o_,o_,o_,o_,o_,o_,o_,o_,o_,o_,o_,o_,o_,o_,o_,o_,o_,o_,o_,o_,o_,o_,o_,o_,o_,o_,o_,o_]) (.seq (.seq (.reg false [I_ 11 [.sl 8] .mv,I_ 12 [.sl 1] .mv,I_ 13
 [.tv 11,.tv 12] (.bin .leq)]) (.cond (.sl 13) .skip (.exit 0))) (.block 1 (.seq (.reg false [I_ 14 [.sl 0] .mv,I_ 15 [.tk 7] .mv,I_ 16 [.sl 8] .mv,I_ 17 [.sl 2] .mv,I_ 18 [.cv (.func 128 [] []),.tk 14,.tk 15,.tk 16,.tk
 17] (.call 1)]) (.seq (.reg false [I_ 19 [.sl 8] .mv,I_ 7 [.tk 19] .mv]) (.reg false [I_ 20 [.tk 8] .mv,I_ 21 [.sl 6] .mv,I_ 22 [.tv 20,.tv 21] (.bin .add),I_ 8 [.tk 22] .mv]))))))) (.seq (.reg false [I_ 23 [.sl 0] .mv,I_
 24 [.tk 7] .mv,I_ 25 [.sl 1] .mv,I_ 26 [.sl 2] .mv,I_ 27 [.cv (.func 128 [] []),.tk 23,.tk 24,.tk 25,.tk 26] (.call 1)]) (.block 2 (.loop (some [i_,i_,i_,o_,o_,o_,i_,o_,o_,o_,o_,o_,o_,o_,o_,o_,o_,o_,o_,o_,o_,o_,o_,o_,o_,o_,o_,o_,o_,o_,o_,o_,o_,o_,o_,o_,o_,o_,o_,o_,o_,o_,o_,o_,o_,o_,o_,o_,o_,o_,o_,o_,o_,o_,o_,o_,o_,o_,o_,o_,o_,o_,o_]) (.seq (.seq (.reg false [I_ 28 [.sl 6] .mv,I_ 29 [.sl 1] .mv,I_ 30 [.tv 28,.tv 29]
 (.bin .lss)]) (.cond (.sl 30) .skip (.exit 2))) (.block 3 (.seq (.reg false [I_ 31 [.sl 6] .mv,I_ 32 [.cv (.int .i64 2),.tv 31] (.bin .mul),I_ 7 [.cv (.int .i64 0)] .mv,I_ 8 [.tk 32] .mv]) (.seq (.block 4 (.loop (some
 [i_,i_,i_,o_,o_,o_,i_,i_,i_,o_,o_,o_,o_,o_,o_,o_,o_,o_,o_,o_,o_,o_,o_,o_,o_,o_,o_,o_,o_,o_,o_,o_,o_,o_,o_,o_,o_,o_,o_,o_,o_,o_,o_,o_,o_,o_,o_,o_,o_,o_,o_,o_,o_,o_,o_,o_,o_,o_,o_,o_,o_,o_,o_]) (.seq (.seq
 (.reg false [I_ 33 [.sl 8] .mv,I_ 34 [.sl 1] .mv,I_ 35 [.tv 33,.tv 34] (.bin .leq)]) (.cond (.sl 35) .skip (.exit 4))) (.block 5 (.seq (.reg false [I_ 36 [.sl 0] .mv,I_ 37 [.sl 7] .mv,I_ 38 [.tk 7] .mv,I_ 39 [.sl 6] .mv,
 I_ 40 [.tv 38,.tv 39] (.bin .add),I_ 41 [.sl 8] .mv,I_ 42 [.sl 2] .mv,I_ 43 [.cv (.func 129 [] []),.tk 36,.tk 37,.tk 40,.tk 41,.tk 42] (.call 1)]) (.seq (.reg false [I_ 44 [.sl 8] .mv,I_ 7 [.tk 44] .mv]) (.reg false
 [I_ 45 [.tk 8] .mv,I_ 46 [.sl 6] .mv,I_ 47 [.cv (.int .i64 2),.tv 46] (.bin .mul),I_ 48 [.tv 45,.tv 47] (.bin .add),I_ 8 [.tk 48] .mv]))))))) (.seq (.seq (.reg false [I_ 49 [.sl 7] .mv,I_ 50 [.sl 6] .mv,I_ 51 [.tv 49,
 .tv 50] (.bin .add),I_ 9 [.tk 51] .mv]) (.seq (.reg false [I_ 52 [.sl 9] .mv,I_ 53 [.sl 1] .mv,I_ 54 [.tv 52,.tv 53] (.bin .lss)]) (.cond (.sl 54) (.reg false [I_ 55 [.sl 0] .mv,I_ 56 [.tk 7] .mv,I_ 57 [.tk 9] .mv,I_ 58
 [.sl 1] .mv,I_ 59 [.sl 2] .mv,I_ 60 [.cv (.func 129 [] []),.tk 55,.tk 56,.tk 57,.tk 58,.tk 59] (.call 1)]) .skip))) (.reg false [I_ 61 [.tk 6] .mv,I_ 62 [.tv 61,.cv (.int .i64 2)] (.bin .mul),I_ 6 [.tk 62]
 .mv])))))))))))
theorem lk121:linkF Go.Proofs.Tryz.prog ann121 121=some (rc121,63,[]):=by kernel_rfl
noncomputable def rc127:RC :=
 .seq (.reg false [I_ 2 [.cv (.bool false)] .mv]) (.seq (.reg false [I_ 3 [.sl 0] .mv,I_ 4 [.tk 0] .mv,I_ 5 [.tv 3,.tv 4] (.bin .neq),I_ 2 [.tk 5] .mv]) .ret)
theorem lk127:linkF Go.Proofs.Tryz.prog ann127 127=some (rc127,6,[.tmp 2]):=by kernel_rfl
noncomputable def rc128:RC :=
 .seq (.reg false [I_ 10 [.sl 1] .mv,I_ 11 [.tv 10,.cv (.int .i64 1)] (.bin .add),I_ 8 [.tk 11] .mv]) (.block 0 (.loop (some [i_,i_,i_,i_,o_,o_,o_,o_,i_,o_,o_,o_,o_,o_,o_,o_,o_,o_,o_,o_,o_,o_,o_,o_,o_,o_,o_,o_,o_,o_,o_,o_,o_,o_,o_,o_,o_,o_,o_,o_,o_,o_,o_,o_,o_,o_,o_,o_,o_,o_,o_,o_,o_]) (.seq (.seq (.reg false [I_ 12 [.sl 8] .mv,I_ 13 [.sl 2] .mv,I_ 14 [.tv 12,.tv 13] (.bin .lss)]) (.cond (.sl 14) .skip (.exit 0))) (.seq (.block 1 (.seq (.reg false [I_ 17 [.sl 8]
 .mv,I_ 9 [.tk 17] .mv]) (.block 2 (.loop (some [i_,i_,i_,i_,o_,o_,o_,o_,i_,i_,o_,o_,o_,o_,o_,o_,o_,o_,o_,o_,o_,o_,o_,o_,o_,o_,o_,o_,o_,o_,o_,o_,o_,o_,o_,o_,o_,o_,o_,o_,o_,o_,o_,o_,o_,o_,o_,o_,o_,o_,o_,o_,o_]) (.seq (.seq (.reg true [I_ 18 [.sl 9]
 .mv,I_ 19 [.sl 1] .mv,I_ 20 [.tv 18,.tv 19] (.bin .gtr),I_ 21 [.tk 20] .mv,⟨some 22,[.sl 3],some (21,true),none,.mv⟩,⟨some 23,[.sl 0],some (21,true),none,.mv⟩,⟨some 24,[.sl 9],some (21,true),none,.mv⟩,
 ⟨some 25,[.tv 23,.tv 24],some (21,true),none,.ia 1⟩,⟨some 26,[.tv 25],some (21,true),none,.ld .one⟩,⟨some 27,[.sl 0],some (21,true),none,.mv⟩,⟨some 28,[.sl 9],some (21,true),none,.mv⟩,⟨some 29,[.tv 28,
 .cv (.int .i64 1)],some (21,true),none,.bin .sub⟩,⟨some 30,[.tv 27,.tv 29],some (21,true),none,.ia 1⟩,⟨some 31,[.tv 30],some (21,true),none,.ld .one⟩,⟨some 32,[.sl 22,.sl 26,.sl 31],some (21,true),none,
 .call 6⟩,⟨some 33,[.tv 32,.cv (.int .i64 0)],some (21,true),none,.bin .lss⟩,I_ 34 [.sl 21,.tv 33,.cv (.bool false)] .pick]) (.cond (.sl 34) .skip (.exit 2))) (.seq (.block 3 (.reg true [I_ 37 [.sl 0] .mv,I_ 38 [.sl
 9] .mv,I_ 39 [.sl 0] .mv,I_ 40 [.sl 9] .mv,I_ 41 [.tv 40,.cv (.int .i64 1)] (.bin .sub),I_ 42 [.sl 0] .mv,I_ 43 [.sl 9] .mv,I_ 44 [.tv 43,.cv (.int .i64 1)] (.bin .sub),I_ 45 [.tv 42,.tv 44] (.ia 1),I_ 46 [.tv 45]
 (.ld .one),I_ 47 [.sl 0] .mv,I_ 48 [.sl 9] .mv,I_ 49 [.tv 47,.tv 48] (.ia 1),I_ 50 [.tv 49] (.ld .one),I_ 51 [.tv 37,.tv 38] (.ia 1),⟨none,[.tk 51,.tk 46],none,none,.st 1⟩,I_ 52 [.tv 39,.tv 41] (.ia 1),⟨none,
 [.tk 52,.tk 50],none,none,.st 1⟩])) (.reg false [I_ 35 [.tk 9] .mv,I_ 36 [.tv 35,.cv (.int .i64 1)] (.bin .sub),I_ 9 [.tk 36] .mv]))))))) (.reg false [I_ 15 [.tk 8] .mv,I_ 16 [.tv 15,.cv (.int .i64 1)] (.bin .add),I_
 8 [.tk 16] .mv])))))
theorem lk128:linkF Go.Proofs.Tryz.prog ann128 128=some (rc128,53,[]):=by kernel_rfl
end Go.Proofs.YtbnbjjgagikobaaGreat.Ab


namespace Go.Proofs.YtbnbjjgagikobaaGreat.Ab
open Go
theorem hmix:Go.Proofs.Tryz.prog.follows .mixedOrders=true:=by kernel_rfl
abbrev PO (k:FuncId) (args:List AV) (v:AV):Prop:=PureOk Go.Proofs.Tryz.prog k args v
abbrev I (n:Int):AV:=.int .i64 n
abbrev J:AV:=.junk
abbrev B (b:Bool):AV:=.bool b
def L1 (l:List Int):AV:=.lst (l.map I) l.length .shared
theorem pure_ints (d:Nat) (l:List Int):(l.map I).all (pureD (d+1))=true:=by
 rw [List.all_eq_true];intro u hu;obtain ⟨x,_,rfl⟩:=List.mem_map.1 hu;rfl
theorem nthM {α:Type} (f:α→AV) (l:List α) (i:Nat) (h:i<l.length) {K:AV→Prop} (k:K (f l[i])):nthK ((l.map f).drop (i*1)) 0 K :=
 nthK_of (x:=f l[i]) (by simp [h]) k
theorem wrapS (i:Nat) (h:i≤9223372036854775806):IntKind.i64.wrap ((i:Int)+1)=((i+1:Nat):Int):=by rw [IntKind.wrap_i64];omega
theorem wrapI (n:Int) (h1:-9223372036854775808≤n) (h2:n≤9223372036854775807):IntKind.i64.wrap n=n:=by rw [IntKind.wrap_i64];omega
theorem pureD_succ:∀ {d:Nat} {v:AV},pureD d v=true→pureD (d+1) v=true
 | 0,v,h=>by simp [pureD] at h
 | d+1,v,h=>by
   have key:∀ {l:List AV},l.all (pureD d)=true→l.all (pureD (d+1))=true:=fun h=>by
    rw [List.all_eq_true] at h ⊢;exact fun u hu=>pureD_succ (h u hu)
   cases v <;> simp only [pureD,Bool.and_eq_true,Bool.false_eq_true] at h ⊢ <;> first | trivial | exact key h | exact ⟨key h.1,key h.2⟩
theorem dcase {p:Prop} [Decidable p] {A C:Prop} (h1:p→A) (h2:¬ p→C):(match decide p with | true=>A | false=>C):=by
 by_cases h:p
 ·simp only [h,decide_true];exact h1 h
 ·simp only [h,decide_false];exact h2 h
theorem acc0 {k:FuncId} {xs:List AV} {v:AV}:∀ p∈([]:PAcc),p.1=k→p.2.1=xs→p.2.2=v:=fun _ h=>by simp at h
theorem accN {k:FuncId} {xs:List AV} {v:AV} {acc:PAcc} (h:acc.all (fun p=>p.1 != k)=true):∀ p∈acc,p.1=k→p.2.1=xs→p.2.2=v:=fun p hp e=>by
 have:=List.all_eq_true.1 h p hp
 simp [e] at this
def Boxes (cap:List AV):Prop:=cap.all (pureD 7)=true∧∀ u∈cap,∃ cs,u=.lptr cs
theorem Boxes.all8 {cap:List AV} (h:Boxes cap):cap.all (pureD 8)=true:=by
 have h1:=h.1
 rw [List.all_eq_true] at h1 ⊢;exact fun u hu=>pureD_succ (h1 u hu)
theorem Boxes.shz {cap:List AV} (h:Boxes cap) (H:List AObj):cap.map (shz H)=cap:=by
 conv=>rhs;rw [←List.map_id cap]
 apply List.map_congr_left;intro u hu;obtain ⟨cs,rfl⟩:=h.2 u hu;rfl
theorem Boxes.shz0 {cap:List AV} (h:Boxes cap) (H:List AObj):cap.map (shz0 H)=cap:=by
 conv=>rhs;rw [←List.map_id cap]
 apply List.map_congr_left;intro u hu;obtain ⟨cs,rfl⟩:=h.2 u hu;rfl
theorem Boxes.dim {cap:List AV} (h:Boxes cap):cap.map AV.dim=cap:=by
 conv=>rhs;rw [←List.map_id cap]
 apply List.map_congr_left;intro u hu;obtain ⟨cs,rfl⟩:=h.2 u hu;rfl
theorem Boxes.fn {cap:List AV} (h:Boxes cap) (H:List AObj) (k:FuncId):Ab.shz H (.func k [] cap)=.func k [] cap:=by
 simp only [Ab.shz,h.shz0,List.map_nil]
theorem Boxes.pfn {cap:List AV} (h:Boxes cap) (k:FuncId):pureD 8 (.func k [] cap)=true:=by
 show (([]:List AV).all (pureD 7) && cap.all (pureD 7))=true
 rw [h.1];rfl
section
variable {P:Program}
theorem call6 {k:FuncId} {xs bs:List AV} {H:List AObj} {lo:Nat} {v:AV} (hb:(xs.map (shz H)).map AV.dim=bs) (hp:(xs.map (shz H)).all (pureD 8)=true) (h:PureOk P k bs v) (hs:scal v=true):CallS P 6 lo (.fn k) xs H v.dim H:=by
 subst hb
 refine ⟨oneC (.fn k) ((xs.map (shz H)).map AV.dim) [] 0 v [],oneC_sound h.1,?_⟩
 simp only [callTo,hp,oneC_self,Option.bind_some,frz_pure h.2,hs]
end
theorem frz_ptr {H:List AObj} {id d:Nat} {l:List AV} (h:H[id]?=some (.cells l)) (hp:(l.map AV.view).all (pureD d)=true):frz H 0 H.length 0 (d+1) (.ptr id 0)=some (.lptr (l.map AV.view)):=by
 have h1:=(List.getElem?_eq_some_iff.1 h).1
 have h2:mapO (frz H 0 H.length 0 d) (l.map AV.view)=some (l.map AV.view):=mapO_id fun u hu=>frz_pure (by rw [List.all_eq_true] at hp;exact hp u hu)
 simp only [frz,Nat.not_lt_zero,if_false,h,List.drop_zero,h2,Option.map_some]
 rw [if_neg (by omega)]
def idxOf {α:Type} (p:α→Bool):List α→Nat→Int
 | [],_ => -1
 | x::l,i=>if p x=true then i else idxOf p l (i+1)
theorem idxOf_nonneg {α:Type} (p:α→Bool):∀ (l:List α) (i:Nat),0≤idxOf p l i↔l.any p=true
 | [],i=>by simp [idxOf]
 | x::l,i=>by
   have ih:=idxOf_nonneg p l (i+1)
   simp only [idxOf,List.any_cons,Bool.or_eq_true]
   by_cases hp:p x=true
   ·simp [hp]
   ·rw [if_neg hp,ih];simp [hp]
theorem idxOf_any {α:Type} (p:α→Bool) (l:List α) (i:Nat):decide (0≤idxOf p l i)=l.any p:=by
 rw [Bool.eq_iff_iff,decide_eq_true_iff];exact idxOf_nonneg p l i
end Go.Proofs.YtbnbjjgagikobaaGreat.Ab


namespace Go.Proofs.YtbnbjjgagikobaaGreat.Ab
open Go Go.ChangeShapes Go.WideShapes Go.ChangeAt Go.RowKit
def S0 (w:World):Nat→Nat→Prop:=fun b o=>∃ v,w.cell? ⟨b,o,none⟩=some v
theorem hrel0 (w:World):HRel w.heap.size (fun _=>none) [] (S0 w) w [] :=
 ⟨rfl,fun _ _ h=>by simp at h,fun _ _ h=>h,fun _ _ h=>by simp at h,Nat.le_refl _⟩
theorem top_calls {P:Program} {k:FuncId} {args:List AV} {vs:List Value} {W:World} {b:Bool} (h:PureOk P k args (.bool b)) (hv:VRel (fun i=>.arg i) (fun _=>none) [] (S0 W) W args vs) :
  Calls P k vs.toArray W fun e W'=>e=.returned (.bool b)∧Below W.heap.size W W':=by
 have h1:=h.1.2.2 W.heap.size (fun _=>none) [] (S0 W) W vs (hrel0 W) (fun _ _ h=>by simp at h) hv
 refine (callsIn_wide.1 h1).mono fun e W' he=>?_
 cases e with
 | returned v =>
   obtain ⟨ω',κ',S',_,ev,_,hr,_⟩:=he
   cases hr
   exact ⟨rfl,ev.os,ev.tape,ev.output,ev.size,fun b hb=>ev.keep b hb rfl⟩
 | panicked c=>exact he.elim
 | outgrown=>exact he.elim
section
variable {H:Type} {enc:TypeId×Value→H} {P:Program} {w:World}
theorem again_all {W W':World} (K:Kids P (·<P.types.size)) (hsz:∀ t e,t<P.types.size→P.underlying t=some (.slice e)→0<P.cellsOf e) (hB:Below W.heap.size W W') {sp:Nat→Bool} :
  ∀ {ts:List TypeId} {vs:List Value} {ds:List (DataW H)} {p:List MemPlace},(∀ t∈ts,t<P.types.size)→DataW.TrodAll enc P W 0 (fun _=>true) true ts vs ds p→(∀ x∈p,sp x.block=true)→(∀ x∈p,x.block<W.heap.size)→DataW.TrodAll enc P W' 0 sp true ts vs ds p
 | [],_,_,_,_,hA,_,_=>by obtain ⟨rfl,rfl,rfl⟩:=trodAll_nil hA;exact trodAll_mk0
 | t::ts,_,_,_,hT,hA,hsp,hlt=>by
   obtain ⟨v,vs,d,ds,a,b,rfl,rfl,rfl,⟨n,hn⟩,h2⟩:=trodAll_cons hA
   refine ⟨a,b,⟨n,?_⟩,again_all K hsz hB (fun t ht=>hT t (List.mem_cons_of_mem _ ht)) h2 (fun x hx=>hsp x (List.mem_append_right _ hx)) (fun x hx=>hlt x (List.mem_append_right _ hx)),rfl⟩
   exact DataW.trod_stays K (fun {t e} ht he=>hsz t e ht he) (fun h=>by cases h) (hT t List.mem_cons_self) hn (fun x hx=>hB.same (hlt x (List.mem_append_left _ hx))) fun x hx=>hsp x (List.mem_append_left _ hx)
theorem post_true {f:Func} {s:ChangeSpec} {again:Bool} {W W':World} {args:Array Value} {t:TypeId} {ds gs:List (DataW H)} {before:List MemPlace}
  (hl:laidOutB P=true) (hm:mapsRowed P=true) (hz:((List.range P.types.size).all fun t=>match P.underlying t with | some (.slice e)=>decide (0<P.cellsOf e) | _=>true)=true)
  (ht:f.resultTypes=#[t]) (hbt:P.underlying t=some .bool) (hps:f.params.toList.all (fun t=>decide (t<P.types.size))=true) (hvars:s.vars=[])
  (hW:DataW.Whole enc P f.params.toList s.vars false W args.toList ds gs before) (hB:Below W.heap.size W W')
  (hs:s.fn H (ds++gs)={ results:=[.lit (.bool true)],args:=ds }):s.post enc P f false true false again W args (.bool true) W':=by
 have hlt:=hW.lt
 have hW2:=hW
 obtain ⟨p,q,hA,hV,rfl,hfz,hnd⟩:=hW2
 rw [hvars] at hV
 obtain ⟨rfl,rfl⟩:=trodVars_none hV
 rw [List.append_nil] at *
 have K:Kids P (·<P.types.size):=kids_rows hl hm
 have hsz:=slices_full_of P hz
 have hT:∀ t∈f.params.toList,t<P.types.size:=fun t h=>by
  have:=List.all_eq_true.1 hps t h;simpa using this
 have again:∀ sp:Nat→Bool,(∀ x∈p,sp x.block=true)→DataW.TrodAll enc P W' 0 sp true f.params.toList args.toList ds p:=fun sp hsp =>
  again_all K hsz hB hT hA hsp hlt
 have hres:∀ (b:Nat) (sp:Nat→Bool) (hd:Bool),DataW.TrodAll enc P W' b sp hd f.resultTypes.toList ((Value.bool true).resultList f.resultTypes.size) (s.fn H ds).results []:=fun b sp hd=>by
  rw [hs,ht]
  exact trodAll_mk1 (shut_bool hbt true)
 have hargs:∀ sp:Nat→Bool,(∀ x∈p,sp x.block=true)→DataW.TrodAll enc P W' 0 sp true f.params.toList args.toList (s.fn H ds).args p:=fun sp hsp=>by
  rw [hs];exact again sp hsp
 have hv:∀ sp:Nat→Bool,DataW.TrodVars enc P W' sp s.vars (s.fn H ds).vars []:=fun sp=>by
  rw [hs,hvars];rfl
 have hold:∀ x∈p,(fun b=>decide (b<W.heap.size)) x.block=true:=fun x hx=>by simpa using hlt x hx
 refine ⟨ds,[],p,[],p,[],hW,by rw [List.append_nil];exact hres _ _ _,by rw [List.append_nil];exact hargs _ hold,by rw [List.append_nil];exact hv _,hB.frame _,fun _=>?_⟩
 refine ⟨fun j u r hu hr=>?_,(s.fn H ds).results++(s.fn H ds).args,[],p,⟨p,[],?_,?_,by simp,?_,fun h=>by cases h⟩,fun x hx _=>hx⟩
 ·rw [ht] at hu hr
  cases j with
  | zero=>simp [Value.resultList] at hu hr;subst hu;subst hr;exact okWide_bool_mk hbt true
  | succ j=>simp at hu
 ·have:=trodAll_append (hargs (fun _=>true) fun _ _=>rfl) (hres 0 (fun _=>true) true)
  simpa using this
 ·rw [hvars];rfl
 ·intro b o hb
  have:=hlt _ hb
  rw [hB.frozen (p:=⟨b,o,none⟩) this]
  exact hfz b o hb
theorem map_of {α:Type} {f:α→AV} {R:α→Prop}:∀ {l:List AV},(∀ u∈l,∃ x,u=f x∧R x)→∃ zs:List α,l=zs.map f∧∀ x∈zs,R x
 | [],_=>⟨[],rfl,by simp⟩
 | u::l,h=>by
   obtain ⟨x,rfl,hx⟩:=h u (by simp)
   obtain ⟨zs,rfl,hz⟩:=map_of (l:=l) fun y hy=>h y (by simp [hy])
   exact ⟨x::zs,rfl,by simpa using ⟨hx,hz⟩⟩
abbrev Cel (enc:TypeId×Value→H) (P:Program) (w:World) (e:TypeId) (Q:AV→Prop):Prop :=
 ∀ n v y,DataW.trod enc P w 0 (fun _=>true) true n e [v]=some y→∃ u,u.plain=true∧v.oneCell'=true∧Rel [] (S0 w) w u v∧Q u
theorem cel_int {e:TypeId} {k:IntKind} (ht:P.underlying e=some (.int k)):Cel enc P w e fun u=>∃ x,u=.int k x∧(Lit.int k x).wf=true:=by
 intro n v y h
 obtain ⟨x,hx,_,hw⟩:=DataW.trod_int ht h
 injection hx with hx _
 subst hx
 exact ⟨.int k x,rfl,rfl,.int k x,x,rfl,hw⟩
instance:Inhabited AV:=⟨.junk⟩
theorem cel_list {t e:TypeId} (ht:P.underlying t=some (.slice e)) (ce:P.cellsOf e=1) {Q:AV→Prop} (he:Cel enc P w e Q) :
  Cel enc P w t fun u=>∃ l:List AV,u=.lst l l.length .shared∧l.length≤maxLen∧∀ u∈l,Q u:=by
 intro fuel v x h
 rcases Deep.open_slice1 ht ce h with ⟨hv,_⟩ | ⟨a,len,cap,m,n,V,D,Pl,hv,_,hl,hm,hmm,_,hx⟩
 ·injection hv with hv _;subst hv
  exact ⟨_,rfl,rfl,.lnil _ _,[],rfl,Nat.zero_le _,by simp⟩
 ·injection hv with hv _;subst hv
  have hmm:m=cap:=hmm
  have hx:∀ i,i<cap→w.cell? (a.add i)=some (V i)∧DataW.trod enc P w 0 (fun _=>true) true n e [V i]=some (D i,Pl i):=fun i hi=>hx i (by omega)
  by_cases hc:cap=0
  ·subst hc;obtain rfl:len=0:=by omega
   exact ⟨_,rfl,rfl,.lnil _ _,[],rfl,Nat.zero_le _,by simp⟩
  ·obtain ⟨b,o,sp⟩:=a
   have h0:=(hx 0 (by omega)).1
   have hs:sp=none:=by simpa [Addr.add] using World.cell?_spot h0
   subst hs
   obtain ⟨U,hU⟩:=Deep.choose_lt (α:=AV) (n:=len) (p:=fun i u=>u.plain=true∧(V i).oneCell'=true∧Rel [] (S0 w) w u (V i)∧Q u) fun i hi=>he n (V i) _ (hx i (by omega)).2
   refine ⟨.lst ((List.range len).map U) len .shared,rfl,rfl,.lst _ _ _ b o cap V (by simp) hl (by simp) (fun j u hj=>?_) (fun j u hj=>?_),(List.range len).map U,by simp,by simp;omega,fun u hu=>?_⟩
   ·have hjl:j<len:=by have:=(List.getElem?_eq_some_iff.1 hj).1;simpa using this
    simp [hjl] at hj;subst hj
    have hcell:w.cell? ⟨b,o+j,none⟩=some (V j):=by have:=(hx j (by omega)).1;rwa [add_lit] at this
    exact ⟨⟨_,hcell⟩,hcell,(hU j hjl).1,(hU j hjl).2.1⟩
   ·have hjl:j<len:=by have:=(List.getElem?_eq_some_iff.1 hj).1;simpa using this
    simp [hjl] at hj;subst hj
    exact (hU j hjl).2.2.1
   ·obtain ⟨j,hj,rfl⟩:=List.mem_map.1 hu
    exact (hU j (List.mem_range.1 hj)).2.2.2
def Fi (x:Int):Prop := -9223372036854775808≤x∧x≤9223372036854775807
theorem wf_i64 {x:Int} (h:(Lit.int .i64 x).wf=true):Fi x:=by
 have h1:IntKind.i64.min=-9223372036854775808:=rfl
 have h2:IntKind.i64.max=9223372036854775807:=rfl
 simp only [Lit.wf,Bool.and_eq_true,decide_eq_true_eq] at h
 exact ⟨by omega,by omega⟩
theorem wf_u8 {x:Int} (h:(Lit.int .u8 x).wf=true):0≤x∧x≤255:=by
 have h1:IntKind.u8.min=0:=rfl
 have h2:IntKind.u8.max=255:=rfl
 simp only [Lit.wf,Bool.and_eq_true,decide_eq_true_eq] at h
 exact ⟨by omega,by omega⟩
structure Fl (l:List Int):Prop where
 n:l.length≤9223372036854775807
 v:∀ x∈l,Fi x
structure Fl2 (l:List (List Int)):Prop where
 n:l.length≤9223372036854775807
 v:∀ r∈l,Fl r
theorem maxLen_le {n:Nat} (h:n≤maxLen):n≤9223372036854775807:=by unfold maxLen at h;omega
theorem cel_L1 {t e:TypeId} (ht:P.underlying t=some (.slice e)) (ce:P.cellsOf e=1) (he:P.underlying e=some (.int .i64)):Cel enc P w t fun u=>∃ l,u=L1 l∧Fl l:=by
 intro n v y h
 obtain ⟨u,a1,a2,a3,l,rfl,a4,a5⟩:=cel_list ht ce (cel_int he) n v y h
 obtain ⟨zs,rfl,a6⟩:=map_of a5
 exact ⟨_,a1,a2,a3,zs,by simp [L1],by simpa using maxLen_le a4,fun x hx=>wf_i64 (a6 x hx)⟩
def Y1 (l:List Int):AV:=.lst (l.map (.int .u8)) l.length .shared
structure Fy (l:List Int):Prop where
 n:l.length≤9223372036854775807
 v:∀ x∈l,0≤x∧x≤255
theorem cel_Y1 {t e:TypeId} (ht:P.underlying t=some (.slice e)) (ce:P.cellsOf e=1) (he:P.underlying e=some (.int .u8)):Cel enc P w t fun u=>∃ l,u=Y1 l∧Fy l:=by
 intro n v y h
 obtain ⟨u,a1,a2,a3,l,rfl,a4,a5⟩:=cel_list ht ce (cel_int he) n v y h
 obtain ⟨zs,rfl,a6⟩:=map_of a5
 exact ⟨_,a1,a2,a3,zs,by simp [Y1],by simpa using maxLen_le a4,fun x hx=>wf_u8 (a6 x hx)⟩
abbrev Arg (enc:TypeId×Value→H) (P:Program) (w:World) (base:Nat) (t:TypeId) (Q:AV→Prop):Prop :=
 ∀ v d p,Value.okWide P w .any base t v→DataW.Trod enc P w 0 (fun _=>true) true t v d p→∃ u,u.plain=true∧Rel [] (S0 w) w u v∧Q u
theorem arg_int {base:Nat} {t:TypeId} {k:IntKind} (ht:P.underlying t=some (.int k)):Arg enc P w base t fun u=>∃ x,u=.int k x∧(Lit.int k x).wf=true:=by
 intro v d p hv hd
 obtain ⟨x,rfl,_,_,hw⟩:=open_int ht hv hd
 exact ⟨.int k x,rfl,.int k x,x,rfl,hw⟩
theorem arg_slice {base:Nat} {t e:TypeId} (ht:P.underlying t=some (.slice e)) {Q:AV→Prop} (hc:Cel enc P w t Q):Arg enc P w base t Q:=by
 intro v d p hv ⟨n,hd⟩
 obtain ⟨a,len,cap,rfl⟩:=okWide_slice ht hv
 obtain ⟨u,a1,_,a3,a4⟩:=hc n _ _ hd
 exact ⟨u,a1,a3,a4⟩
theorem vrel_of {us:List AV} {vs:List Value} (h:us.length=vs.length) (hr:∀ (i:Nat) (u:AV) (v:Value),us[i]?=some u→vs[i]?=some v→u.plain=true∧Rel [] (S0 w) w u v):VRel (fun i=>.arg i) (fun _=>none) [] (S0 w) w us vs :=
 ⟨h,fun i u v hu hv=>(hr i u v hu hv).2,fun i u v hu hv=>OwnAt.of_plain (hr i u v hu hv).1⟩
theorem vrel_four {u0 u1 u2 u3:AV} {v0 v1 v2 v3:Value} (p0:u0.plain=true) (r0:Rel [] (S0 w) w u0 v0) (p1:u1.plain=true) (r1:Rel [] (S0 w) w u1 v1) (p2:u2.plain=true) (r2:Rel [] (S0 w) w u2 v2) (p3:u3.plain=true) (r3:Rel [] (S0 w) w u3 v3) :
  VRel (fun i=>.arg i) (fun _=>none) [] (S0 w) w [u0,u1,u2,u3] [v0,v1,v2,v3] :=
 vrel_of rfl fun i u v hu hv=>by
  match i with
  | 0=>simp at hu hv;subst hu;subst hv;exact ⟨p0,r0⟩
  | 1=>simp at hu hv;subst hu;subst hv;exact ⟨p1,r1⟩
  | 2=>simp at hu hv;subst hu;subst hv;exact ⟨p2,r2⟩
  | 3=>simp at hu hv;subst hu;subst hv;exact ⟨p3,r3⟩
  | i+4=>simp at hu
end
end Go.Proofs.YtbnbjjgagikobaaGreat.Ab


namespace Go.Proofs.YtbnbjjgagikobaaGreat.Ab
open Go Go.ChangeShapes Go.WideShapes Go.ChangeAt Go.RowKit
section
variable {H:Type} {enc:TypeId×Value→H} {P:Program} {w:World}
theorem map_of' {α β:Type} {f:α→β} {R:α→Prop}:∀ {l:List β},(∀ u∈l,∃ x,u=f x∧R x)→∃ zs:List α,l=zs.map f∧∀ x∈zs,R x
 | [],_=>⟨[],rfl,by simp⟩
 | u::l,h=>by
   obtain ⟨x,rfl,hx⟩:=h u (by simp)
   obtain ⟨zs,rfl,hz⟩:=map_of' (l:=l) fun y hy=>h y (by simp [hy])
   exact ⟨x::zs,rfl,by simpa using ⟨hx,hz⟩⟩
def Flds (enc:TypeId×Value→H) (P:Program) (w:World) (fs:Array Field) (Qs:List (AV→Prop)):Prop :=
 Qs.length=fs.size∧∀ (i:Nat) (f:Field) (q:AV→Prop),fs[i]?=some f→Qs[i]?=some q→f.offset=i∧P.cellsOf f.type=1∧Cel enc P w f.type q
def AllQ (Qs:List (AV→Prop)) (us:List AV):Prop:=us.length=Qs.length∧∀ (i:Nat) (u:AV) (q:AV→Prop),us[i]?=some u→Qs[i]?=some q→q u
theorem struct_cells {t:TypeId} {fs:Array Field} {Qs:List (AV→Prop)} (ht:P.underlying t=some (.struct fs)) (hc:P.cellsOf t=fs.size) (hf:Flds enc P w fs Qs) {n:Nat} {cs:List Value} {y:DataW H×List MemPlace}
  (h:DataW.trod enc P w 0 (fun _=>true) true n t cs=some y):∃ us:List AV,AllQ Qs us∧cs.length=us.length∧∀ (j:Nat) (u:AV) (v:Value),us[j]?=some u→cs[j]?=some v→u.plain=true∧v.oneCell'=true∧Rel [] (S0 w) w u v:=by
 obtain ⟨xs,m,_,_,hl,hxl,hx⟩:=DataW.trod_struct ht h
 rw [hc] at hl
 have each:∀ i,i<fs.size→∃ u:AV,(∀ v,cs[i]?=some v→u.plain=true∧v.oneCell'=true∧Rel [] (S0 w) w u v)∧∀ q,Qs[i]?=some q→q u:=fun i hi=>by
  have h1:fs[i]?=some fs[i]:=Array.getElem?_eq_getElem hi
  have hq:i<Qs.length:=by rw [hf.1];exact hi
  have h2:Qs[i]?=some Qs[i]:=List.getElem?_eq_getElem hq
  obtain ⟨e1,e2,e3⟩:=hf.2 i _ _ h1 h2
  have h3:=hx i _ h1
  rw [e1,e2] at h3
  have hic:i<cs.length:=by omega
  rw [List.drop_eq_getElem_cons hic,List.getElem?_eq_getElem (by omega)] at h3
  simp only [List.take_succ_cons,List.take_zero] at h3
  obtain ⟨u,a1,a2,a3,a4⟩:=e3 _ _ _ h3
  refine ⟨u,fun v hv=>?_,fun q hq'=>?_⟩
  ·rw [List.getElem?_eq_getElem hic] at hv;cases hv;exact ⟨a1,a2,a3⟩
  ·rw [h2] at hq';cases hq';exact a4
 obtain ⟨U,hU⟩:=Deep.choose_lt (α:=AV) (n:=fs.size) (p:=fun i u=>(∀ v,cs[i]?=some v→u.plain=true∧v.oneCell'=true∧Rel [] (S0 w) w u v)∧∀ q,Qs[i]?=some q→q u) each
 have get:∀ (i:Nat) (u:AV),((List.range fs.size).map U)[i]?=some u→i<fs.size∧u=U i:=fun i u hu=>by
  have hi:i<fs.size:=by have:=(List.getElem?_eq_some_iff.1 hu).1;simpa using this
  simp [hi] at hu;exact ⟨hi,hu.symm⟩
 refine ⟨(List.range fs.size).map U,⟨by simp [hf.1],fun i u q hu hq=>?_⟩,by simp [hl],fun j u v hu hv=>?_⟩
 ·obtain ⟨hi,rfl⟩:=get i u hu;exact (hU i hi).2 q hq
 ·obtain ⟨hi,rfl⟩:=get j u hu;exact (hU j hi).1 v hv
theorem arg_struct {base:Nat} {t:TypeId} {fs:Array Field} {Qs:List (AV→Prop)} (ht:P.underlying t=some (.struct fs)) (hc:P.cellsOf t=fs.size) (hf:Flds enc P w fs Qs):Arg enc P w base t fun u=>∃ us,u=.agg us∧AllQ Qs us:=by
 intro v d p hv ⟨n,hd⟩
 unfold Value.okWide at hv
 rw [ht] at hv
 obtain ⟨cs,rfl,hsz,_⟩:=hv
 obtain ⟨us,h1,h2,h3⟩:=struct_cells ht hc hf hd
 have h2:cs.toList.length=us.length:=h2
 refine ⟨.agg us,rfl,.agg us cs (by simpa using h2) (fun u hu=>?_) (fun v hv=>?_) fun j u v hu hv=>?_,us,rfl,h1⟩
 ·obtain ⟨j,hj⟩:=List.mem_iff_getElem?.1 hu
  have hlt:j<cs.toList.length:=by rw [h2];exact (List.getElem?_eq_some_iff.1 hj).1
  exact (h3 j u _ hj (List.getElem?_eq_getElem hlt)).1
 ·obtain ⟨j,hj⟩:=List.mem_iff_getElem?.1 hv
  have hlt:j<us.length:=by rw [←h2];exact (List.getElem?_eq_some_iff.1 hj).1
  exact (h3 j _ v (List.getElem?_eq_getElem hlt) hj).2.1
 ·exact (h3 j u v hu (by show cs.toList[j]?=some v;simpa using hv)).2.2
theorem flatten_get {s:Nat}:∀ {L:List (List AV)} {j:Nat} {u:AV},(∀ l∈L,l.length=s)→0<s→L.flatten[j]?=some u→∃ l,L[j / s]?=some l∧l[j % s]?=some u
 | [],j,u,_,_,h=>by simp at h
 | l::L,j,u,hl,hs,h=>by
   have h0:l.length=s:=hl l (by simp)
   rw [List.flatten_cons] at h
   by_cases hj:j<s
   ·rw [List.getElem?_append_left (by omega)] at h
    exact ⟨l,by rw [Nat.div_eq_of_lt hj];rfl,by rw [Nat.mod_eq_of_lt hj];exact h⟩
   ·rw [List.getElem?_append_right (by omega),h0] at h
    obtain ⟨k,a,b⟩:=flatten_get (s:=s) (fun x hx=>hl x (by simp [hx])) hs h
    have e1:j / s=(j-s) / s+1:=by rw [Nat.div_eq_sub_div hs (by omega)]
    have e2:j % s=(j-s) % s:=by rw [Nat.mod_eq_sub_mod (by omega)]
    exact ⟨k,by rw [e1];simpa using a,by rw [e2];exact b⟩
theorem cel_structs {t e:TypeId} {fs:Array Field} {Qs:List (AV→Prop)} (ht:P.underlying t=some (.slice e)) (he:P.underlying e=some (.struct fs)) (hc:P.cellsOf e=fs.size) (h0:0<fs.size) (hf:Flds enc P w fs Qs) :
  Cel enc P w t fun u=>∃ L:List (List AV),u=.lst L.flatten L.length .shared∧L.length≤maxLen∧∀ us∈L,AllQ Qs us:=by
 intro fuel v x h
 rcases Deep.open_slice ht h with ⟨hv,_⟩ | ⟨a,len,cap,m,n,D,Pl,hv,_,hl,hm,hmm,_,hx⟩
 ·injection hv with hv _;subst hv
  exact ⟨_,rfl,rfl,.lnil _ _,[],rfl,Nat.zero_le _,by simp⟩
 ·injection hv with hv _;subst hv
  have hmm:m=cap:=hmm
  by_cases hc0:cap=0
  ·subst hc0;obtain rfl:len=0:=by omega
   exact ⟨_,rfl,rfl,.lnil _ _,[],rfl,Nat.zero_le _,by simp⟩
  ·have each:∀ i,i<len→∃ q:List AV×List Value,AllQ Qs q.1∧q.2.length=fs.size∧w.cells? 0 (a.add (i*fs.size)) fs.size=some q.2∧∀ (j:Nat) (u:AV) (v:Value),q.1[j]?=some u→q.2[j]?=some v→u.plain=true∧v.oneCell'=true∧Rel [] (S0 w) w u v:=fun i hi=>by
    obtain ⟨cs',h1,h2⟩:=hx i (by omega)
    rw [hc] at h1
    obtain ⟨us,b1,b2,b3⟩:=struct_cells he hc hf h2
    exact ⟨(us,cs'),b1,by have:=b1.1;rw [b2,this,hf.1],h1,b3⟩
   obtain ⟨q0,_,_,hq0,_⟩:∃ q:List Value,True∧True∧w.cells? 0 (a.add (0*fs.size)) fs.size=some q∧True:=by
    obtain ⟨cs',h1,_⟩:=hx 0 (by omega);rw [hc] at h1;exact ⟨cs',trivial,trivial,h1,trivial⟩
   obtain ⟨b,o,sp⟩:=a
   have hs:sp=none:=by
    obtain ⟨_,hlen,hcell⟩:=World.cells?_some hq0
    have:=hcell 0 h0
    rw [List.getElem?_eq_getElem (by omega)] at this
    simpa [Addr.add] using World.cell?_spot this
   subst hs
   obtain ⟨U,hU⟩:=Deep.choose_lt (α:=List AV×List Value) (n:=len) (p:=fun i q=>AllQ Qs q.1∧q.2.length=fs.size∧w.cells? 0 (Addr.add ⟨b,o,none⟩ (i*fs.size)) fs.size=some q.2∧∀ (j:Nat) (u:AV) (v:Value),q.1[j]?=some u→q.2[j]?=some v→u.plain=true∧v.oneCell'=true∧Rel [] (S0 w) w u v) each
   have hUl:∀ i,i<len→(U i).1.length=fs.size:=fun i hi=>by have:=(hU i hi).1.1;rw [this,hf.1]
   have hall:∀ l∈((List.range len).map fun i=>(U i).1),l.length=fs.size:=fun l hl'=>by
    obtain ⟨i,hi,rfl⟩:=List.mem_map.1 hl';exact hUl i (List.mem_range.1 hi)
   let V:Nat→Value:=fun j=>((U (j / fs.size)).2)[j % fs.size]!
   have key:∀ (j:Nat) (u:AV),(((List.range len).map fun i=>(U i).1).flatten)[j]?=some u→w.cell? ⟨b,o+j,none⟩=some (V j)∧u.plain=true∧(V j).oneCell'=true∧Rel [] (S0 w) w u (V j):=fun j u hj=>by
    obtain ⟨l,g1,g2⟩:=flatten_get hall h0 hj
    have hi:j / fs.size<len:=by have:=(List.getElem?_eq_some_iff.1 g1).1;simpa using this
    simp [hi] at g1;subst g1
    obtain ⟨c1,c2,c3,c4⟩:=hU _ hi
    have hmod:j % fs.size<fs.size:=Nat.mod_lt _ h0
    have hv:(U (j / fs.size)).2[j % fs.size]?=some (V j):=by
     show _=some ((U (j / fs.size)).2[j % fs.size]!)
     rw [List.getElem?_eq_getElem (by omega),getElem!_pos _ _ (by omega)]
    obtain ⟨_,_,hcell⟩:=World.cells?_some c3
    have hc':=hcell (j % fs.size) hmod
    rw [hv] at hc'
    have e:(Addr.add (Addr.add ⟨b,o,none⟩ (j / fs.size*fs.size)) (j % fs.size))=⟨b,o+j,none⟩:=by
     simp only [add_lit]
     congr 1
     have:=Nat.div_add_mod' j fs.size
     omega
    rw [e] at hc'
    exact ⟨hc',c4 _ _ _ g2 hv⟩
   refine ⟨.lst ((List.range len).map fun i=>(U i).1).flatten len .shared,rfl,rfl,.lst _ _ _ b o cap V (by simp) hl (by simp) (fun j u hj=>?_) (fun j u hj=>?_),(List.range len).map fun i=>(U i).1,by simp,by simp;omega,fun us hu=>?_⟩
   ·obtain ⟨k1,k2,k3,_⟩:=key j u hj
    exact ⟨⟨_,k1⟩,k1,k2,k3⟩
   ·exact (key j u hj).2.2.2
   ·obtain ⟨j,hj,rfl⟩:=List.mem_map.1 hu
    exact (hU j (List.mem_range.1 hj)).1
end
end Go.Proofs.YtbnbjjgagikobaaGreat.Ab


namespace Go.Proofs.YtbnbjjgagikobaaGreat.Ab
open Go
section
variable {P:Program}
theorem fn_sem (hmix:P.follows .mixedOrders=true) {k:Nat} {A:FAnn} {rc:RC} {n:Nat} {ts:List RV} (hl:linkF P A k=some (rc,n,ts)) {lo:Nat} {args T:List AV} {H H':List AObj} (hT:args++List.replicate (n-args.length) .junk=T) {v:AV} (hlow:Low lo H H')
  (h:wpR P A k lo none rc T H fun e T1 H1=>(e=.normal∨e=.ret)∧Fgt H1 H'∧(readR H1 T1 ts).map packResults=some v):Sem P (.fn k) args H lo v H':=by
 unfold linkF at hl
 split at hl
 ·rename_i f hf
  split at hl
  ·rename_i c hb
   split at hl
   ·rename_i rc' ts' h1 h2 h3 h4
    simp only [Option.some.injEq,Prod.mk.injEq] at hl
    obtain ⟨rfl,rfl,rfl⟩:=hl
    subst hT
    refine sem_fn hmix hf hb (by simpa using h2) h1 hlow (wpA_mono (fun e s hq=>?_) (link_ok h3 h))
    obtain ⟨g1,g2,g3⟩:=hq
    simp only [Option.map_eq_some_iff] at g3
    obtain ⟨vs,g3,g4⟩:=g3
    exact ⟨g1,g2,vs,by rw [readR_eq _ _ h4,g3],g4⟩
   ·cases hl
  ·cases hl
 ·cases hl
end
theorem fn_semQ {P:Program} (hmix:P.follows .mixedOrders=true) {k:Nat} {A:FAnn} {rc:RC} {n:Nat} {ts:List RV} (hl:linkF P A k=some (rc,n,ts)) {lo:Nat} {args T:List AV} {H H':List AObj} (hT:args++List.replicate (n-args.length) .junk=T) {v:AV} (hlow:Low lo H H')
  (h:∀ Q:Ex→List AV→List AObj→Prop,(∀ e T1 H1,(e=.normal∨e=.ret)∧Fgt H1 H'∧(readR H1 T1 ts).map packResults=some v→Q e T1 H1)→wpR P A k lo none rc T H Q):Sem P (.fn k) args H lo v H' :=
 fn_sem hmix hl hT hlow (h _ fun _ _ _ h=>h)
theorem fn_pureQ {P:Program} (hmix:P.follows .mixedOrders=true) {k:Nat} {A:FAnn} {rc:RC} {n:Nat} {ts:List RV} (hl:linkF P A k=some (rc,n,ts)) {args T:List AV} (hT:args++List.replicate (n-args.length) .junk=T) {v:AV} (hp:pureD 8 v=true)
  (h:∀ Q:Ex→List AV→List AObj→Prop,(∀ e T1 H1,Ret ts v e T1 H1→Q e T1 H1)→wpR P A k 0 none rc T [] Q):PureOk P k args v :=
 fn_pure hmix hl hT hp (h _ fun _ _ _ h=>h)
theorem call1 {P:Program} {lo:Nat} {tgt:Tgt} {xs:List AV} {H H':List AObj} {v:AV} (h:Sem P tgt xs H lo v H'):CallS P 1 lo tgt xs H v H' :=
 ⟨oneC tgt xs H lo v H',oneC_sound h,by simp only [callTo,oneC_self]⟩
theorem sem_pure {P:Program} {k:FuncId} {args:List AV} {v:AV} (ha:args.all (pureD 8)=true) (h:PureOk P k args v) (H:List AObj):Sem P (.fn k) args H H.length v H:=by
 obtain ⟨⟨_,h1,h2⟩,hp⟩:=h
 exact ⟨Low.refl _ _,h1,fun B ω κ S w vs hH hn hv=>CallsIn.mono (h2 B _ [] S w vs (hrel_pure hH) (fun b i h=>by obtain ⟨_,_,h⟩:=argsOnly_some h;cases h) (hv.pure ha)) fun e w' he=>by
  cases e with
  | returned v=>exact post_pure hH (frz_pure (n:=0) hp) he
  | panicked c=>exact he.elim
  | outgrown=>exact he.elim⟩
theorem call0 {P:Program} {k:FuncId} {args:List AV} {v:AV} (ha:args.all (pureD 8)=true) (h:PureOk P k args v) (H:List AObj) (lo:Nat):CallS P 0 lo (.fn k) args H v H :=
 ⟨_,oneC_sound (sem_pure ha h H),by simp only [callTo,oneC_self,Option.bind_some,frz_pure h.2,Option.map_some]⟩
theorem ga {X Z:List AObj} {j:Nat} {o:AObj} (h:X[j]?=some o):(X++Z)[j]?=some o:=by
 rw [List.getElem?_append_left (List.getElem?_eq_some_iff.1 h).1];exact h
theorem set_concat (X:List AObj) (c c':AObj):(X++[c]).set X.length c'=X++[c']:=by simp
theorem get_concat (X:List AObj) (c:AObj):(X++[c])[X.length]?=some c:=by simp
end Go.Proofs.YtbnbjjgagikobaaGreat.Ab


namespace Go.Proofs.YtbnbjjgagikobaaGreat.Ab
open Go
def FU:Nat:=18446744073709551616
theorem FU_lt {n:Nat} (h:n≤9223372036854775808):n<FU:=by unfold FU;omega
def gd (p:Prop) [Decidable p] {ρ:Type} (k:Option ρ):Option ρ:=if p then k else none
theorem gd_some {p:Prop} [Decidable p] {ρ:Type} {k:Option ρ} {v:ρ} (h:gd p k=some v):p∧k=some v:=by
 unfold gd at h;split at h
 ·exact ⟨by assumption,h⟩
 ·cases h
theorem gd_pos {p:Prop} [Decidable p] {ρ:Type} {k:Option ρ} (h:p):gd p k=k:=if_pos h
theorem bd_some {α ρ:Type} {x:Option α} {f:α→Option ρ} {v:ρ} (h:x.bind f=some v):∃ a,x=some a∧f a=some v:=by
 cases x with
 | none=>cases h
 | some a=>exact ⟨a,rfl,h⟩
theorem it_t {b:Bool} {ρ:Type} {x y:Option ρ} {v:ρ} (hb:b=true) (h:(if b=true then x else y)=some v):x=some v:=by
 rw [if_pos hb] at h;exact h
theorem it_f {b:Bool} {ρ:Type} {x y:Option ρ} {v:ρ} (hb:b=false) (h:(if b=true then x else y)=some v):y=some v:=by
 rw [if_neg (by rw [hb];decide)] at h;exact h
theorem bt (b:Bool):b=true∨b=false:=by cases b <;> simp
def ix {α:Type} [Inhabited α] (l:List α) (i:Int):α:=l.getD i.toNat default
theorem ix_nat {α:Type} [Inhabited α] {l:List α} {k:Nat} (h:k<l.length):ix l (k:Int)=l[k]:=by
 simp [ix,h]
theorem ix_of {α:Type} [Inhabited α] {l:List α} {i:Int} (h:0≤i∧i<(l.length:Int)):ix l i=l[i.toNat]'(by omega):=by
 have:i.toNat<l.length:=by omega
 simp [ix,this]
theorem ix_mem {α:Type} [Inhabited α] {l:List α} {i:Int} (h:0≤i∧i<(l.length:Int)):ix l i∈l:=by
 rw [ix_of h];exact List.getElem_mem _
abbrev w (n:Int):Int:=IntKind.i64.wrap n
theorem w_eq {n:Int} (h1:-9223372036854775808≤n) (h2:n≤9223372036854775807):w n=n:=wrapI n h1 h2
theorem none_ne {ρ:Type} {v:ρ} {G:Prop} (h:(none:Option ρ)=some v):G:=by cases h
theorem drop1 {α:Type} [Inhabited α] (f:α→AV) (l:List α) (n:Int) (h:0≤n∧n<(l.length:Int)):(l.map f).drop (n.toNat*1)=f (ix l n)::(l.drop (n.toNat+1)).map f:=by
 have h':n.toNat<l.length:=by omega
 rw [Nat.mul_one,←List.map_drop,List.drop_eq_getElem_cons h',List.map_cons,ix_of h]
theorem dropS {α:Type} [Inhabited α] (f:α→List AV) (s:Nat) (hs:∀ x,(f x).length=s):∀ (l:List α) (n:Int),0≤n∧n<(l.length:Int)→(l.flatMap f).drop (n.toNat*s)=f (ix l n)++(l.drop (n.toNat+1)).flatMap f:=by
 have key:∀ (l:List α) (k:Nat) (h:k<l.length),(l.flatMap f).drop (k*s)=f l[k]++(l.drop (k+1)).flatMap f:=by
  intro l
  induction l with
  | nil=>intro k h;simp at h
  | cons x l ih =>
    intro k h
    cases k with
    | zero=>simp
    | succ k =>
      have hk:k<l.length:=by simpa using h
      have e:(k+1)*s=(f x).length+k*s:=by rw [hs,Nat.add_mul,Nat.one_mul,Nat.add_comm]
      rw [List.flatMap_cons,e,List.drop_length_add_append,ih k hk]
      rfl
 intro l n h
 rw [key l n.toNat (by omega),ix_of h]
theorem apnd {α:Type} (f:α→AV) (l m:List α) (c:Cap):AV.lst (l.map f++m.map f) (l.length+m.length) c=.lst ((l++m).map f) (l++m).length c:=by
 rw [List.map_append,List.length_append]
theorem apnd1 {α:Type} (f:α→AV) (l:List α) (x:α) (c:Cap):AV.lst (l.map f++[f x]) (l.length+1) c=.lst ((l++[x]).map f) (l++[x]).length c:=by
 rw [List.map_append,List.length_append];rfl
theorem apndS {α:Type} (f:α→List AV) (l:List α) (x:α) (c:Cap):AV.lst (l.flatMap f++f x) (l.length+1) c=.lst ((l++[x]).flatMap f) (l++[x]).length c:=by
 simp [List.flatMap_append]
theorem slLo {α:Type} (f:α→AV) (l:List α) (n:Int) (h:0≤n∧n≤(l.length:Int)) (c:Cap):AV.lst (((l.map f).drop (n.toNat*1)).take ((l.length-n.toNat)*1)) (l.length-n.toNat) c=.lst ((l.drop n.toNat).map f) (l.drop n.toNat).length c:=by
 rw [Nat.mul_one,Nat.mul_one,List.length_drop,←List.map_drop,List.take_of_length_le (by simp)]
theorem slHi {α:Type} (f:α→AV) (l:List α) (n:Int) (h:0≤n∧n≤(l.length:Int)) (c:Cap):AV.lst ((l.map f).take (n.toNat*1)) n.toNat c=.lst ((l.take n.toNat).map f) (l.take n.toNat).length c:=by
 rw [Nat.mul_one,List.length_take,←List.map_take,Nat.min_eq_left (by omega)]
theorem slLH {α:Type} (f:α→AV) (l:List α) (n m:Int) (h:0≤n∧n≤m∧m≤(l.length:Int)) (c:Cap):AV.lst (((l.map f).drop (n.toNat*1)).take ((m.toNat-n.toNat)*1)) (m.toNat-n.toNat) c=.lst (((l.drop n.toNat).take (m.toNat-n.toNat)).map f) ((l.drop n.toNat).take (m.toNat-n.toNat)).length c:=by
 rw [Nat.mul_one,Nat.mul_one,List.length_take,List.length_drop,←List.map_drop,←List.map_take,Nat.min_eq_left (by omega)]
theorem rdD {α:Type} [Inhabited α] (f:α→AV) (l:List α) (n:Int) (h:0≤n∧n<(l.length:Int)) {K:AV→Prop} (k:K (f (ix l n))):nthK (l.map f) (0+n.toNat*1) K:=by
 have h':n.toNat<l.length:=by omega
 refine nthK_of (x:=f (ix l n)) ?_ k
 rw [Nat.zero_add,Nat.mul_one,List.getElem?_map,List.getElem?_eq_getElem h',ix_of h];rfl
theorem updD {α:Type} (f:α→AV) (l:List α) (n:Int) (x:α) (h:0≤n∧n<(l.length:Int)) {K:List AV→Prop} (k:K ((l.set n.toNat x).map f)):updK (l.map f) (0+n.toNat*1) (f x) K:=by
 have h':n.toNat<l.length:=by omega
 refine updK_of (by simpa using h') ?_
 rw [Nat.zero_add,Nat.mul_one,←List.map_set];exact k
theorem replMap {α:Type} (f:α→AV) (x:α):∀ n,repl n [f x]=(List.replicate n x).map f
 | 0=>rfl
 | n+1=>by rw [repl,replMap f x n];rfl
theorem and2 {a b:Bool} (h:a=true) (k:b=true):(a && b)=true:=by rw [h,k];rfl
theorem allc {α:Type} {f:α→Bool} {x:α} {l:List α} (h:f x=true) (k:l.all f=true):(x::l).all f=true:=and2 h k
theorem pu_agg {cs:List AV} {d:Nat} (h:cs.all (pureD d)=true):pureD (d+1) (.agg cs)=true:=h
theorem pu_lptr {cs:List AV} {d:Nat} (h:cs.all (pureD d)=true):pureD (d+1) (.lptr cs)=true:=h
theorem pu_tup {cs:List AV} {d:Nat} (h:cs.all (pureD d)=true):pureD (d+1) (.tuple cs)=true:=h
theorem pu_fn {k:FuncId} {a b:List AV} {d:Nat} (h1:a.all (pureD d)=true) (h2:b.all (pureD d)=true):pureD (d+1) (.func k a b)=true:=and2 h1 h2
theorem pu_map {α:Type} {f:α→AV} {d:Nat} (h:∀ x,pureD d (f x)=true) (l:List α) (n:Nat) (c:Cap):pureD (d+1) (.lst (l.map f) n c)=true:=by
 show (l.map f).all (pureD d)=true
 rw [List.all_eq_true];intro u hu;obtain ⟨x,_,rfl⟩:=List.mem_map.1 hu;exact h x
theorem pu_flat {α:Type} {f:α→List AV} {d:Nat} (h:∀ x,(f x).all (pureD d)=true) (l:List α) (n:Nat) (c:Cap):pureD (d+1) (.lst (l.flatMap f) n c)=true:=by
 show (l.flatMap f).all (pureD d)=true
 rw [List.all_eq_true];intro u hu
 obtain ⟨x,_,hx⟩:=List.mem_flatMap.1 hu
 exact List.all_eq_true.1 (h x) u hx
theorem pu_run {α:Type} {f:α→AV} {d:Nat} (h:∀ x,pureD d (f x)=true) (l:List α):(l.map f).all (pureD d)=true:=by
 rw [List.all_eq_true];intro u hu;obtain ⟨x,_,rfl⟩:=List.mem_map.1 hu;exact h x
section
variable {P:Program} {B:Nat} {κ:List Nat} {w:World} {ω:Nat→Option Lab} {S:Nat→Nat→Prop}
theorem Post.weak {H':List AObj} {r:AV} {v:Value} {w':World} (h:Post B ω κ S w H' r v w'):Post B ω κ S w H' r.settle.view.dim v w':=by
 have h1:Post B ω κ S w H' r.settle v w':=by
  cases r with
  | lst c n k=>cases k with
    | uniq z=>exact h.settle
    | _=>exact h
  | _=>exact h
 have h2:r.settle.noUniq=true:=by
  cases r with
  | lst c n k=>cases k <;> rfl
  | _=>rfl
 obtain ⟨ω2,κ2,S2,a,b,c,d,e⟩:=h1
 exact Post.dim ⟨ω2,κ2,S2,a,b,c,d.view h2,OwnAt.of_plain (AV.view_plain _)⟩
theorem pure_fnW0 (hmix : P.follows .mixedOrders = true) {k : Nat} {f : Func} {c : Code} (hf : P.funcs[k]? = some f) (hb : f.body = some c) (hn : f.name ≠ "runtime.NumGoroutine") {A : FAnn} (hok : codeOk A c = true)
  {args:List AV} {v:AV} (hp:pureD 8 v=true)
  (h:wpA P A k 0 none c 0 ⟨args++List.replicate (f.ntmps-args.length) .junk,[]⟩ fun e s=>(e=.normal∨e=.ret)∧∃ vs r,readResults P s.H s.T f.results.toList=some vs∧frz s.H 0 s.H.length 0 8 (packResults vs)=some r∧r.settle.view.dim=v):PureOk P k args v:=by
 refine ⟨⟨Low.refl _ _,⟨f,hf,by simp [hb],hn⟩,fun B ω κ S w xs hH _ hv=>?_⟩,hp⟩
 refine callsIn_of_wp_marks hf hb trivial ?_
 have hA:=start_rel hH hv f.ntmps
 have ev0:=(toSlots_rel hH).1
 refine wpA_sim hmix c 0 _ _ h hok Fence.wide _ B w.heap.size κ w (toSlots ω) S _ (.inl ⟨rfl,rfl⟩) (fun l a w hg=>hg.elim) hA fun e s hk a' w' hs=>?_
 obtain ⟨he,vs,r,hr,hfz,hset⟩:=hk
 obtain ⟨ω1,κ1,S1,k1,k2,hA1⟩:=hs
 have hleave:LeavesInM Fence.wide 0 P f a'.tmps (FnPost B ω κ S w [] v) a'.defers .returning w':=by
  refine leaves_marks (ω:=ω1) (S:=S1) (κ:=κ1) (B:=B) (H:=s.H) (ω0:=ω) (S0:=S) (w0:=w) a'.defers w' hA1.M.2.1 hA1.M.2.2 (ev0.trans k2) hA1.H fun w2 j1 j2 j3 j4=>?_
  have hT:VRel .slot ω1 κ1 S1 w2 s.T a'.tmps.toList:=⟨hA1.T.len,fun i u v hu hv=>(hA1.T.rel i u v hu hv).mono (Ext.refl _) (fun b o h=>⟨h,j2 b o h⟩),fun i u v hu hv =>
   (hA1.T.own i u v hu hv).mono (Ext.refl _) (fun b o h=>⟨h,j2 b o h⟩) fun b hb=>⟨hb,j1 b _ hb,fun _ h=>h⟩⟩
  obtain ⟨x,q1,q2⟩:=results_sim j4 hT hr
  have hpost:=post_frz hH (fun id hid=>by simp at hid) hfz (Post.after k1 j3 q2)
  refine ⟨x,q1,?_⟩
  rw [←hset];exact hpost.weak
 rcases he with rfl | rfl
 ·exact hleave
 ·exact hleave
end
inductive RetW (rs:List RV) (v:AV) (e:Ex) (T:List AV) (H:List AObj):Prop where
 | mk (he:e=.normal∨e=.ret) (vs:List AV) (hr:readR H T rs=some vs) (r:AV) (hf:frz H 0 H.length 0 8 (packResults vs)=some r) (hv:r.settle.view.dim=v)
theorem fn_pureW {P:Program} (hmix:P.follows .mixedOrders=true) {k:Nat} {A:FAnn} {rc:RC} {n:Nat} {ts:List RV} (hl:linkF P A k=some (rc,n,ts)) {args T:List AV} (hT:args++List.replicate (n-args.length) .junk=T) {v:AV} (hp:pureD 8 v=true)
  (h:∀ Q:Ex→List AV→List AObj→Prop,(∀ e T H,RetW ts v e T H→Q e T H)→wpR P A k 0 none rc T [] Q):PureOk P k args v:=by
 have h:=h _ fun _ _ _ h=>h
 unfold linkF at hl
 split at hl
 ·rename_i f hf
  split at hl
  ·rename_i c hb
   split at hl
   ·rename_i rc' ts' h1 h2 h3 h4
    simp only [Option.some.injEq,Prod.mk.injEq] at hl
    obtain ⟨rfl,rfl,rfl⟩:=hl
    subst hT
    have hq:∀ e s,RetW ts' v e (St.T s) (St.H s)→(e=.normal∨e=.ret)∧∃ vs r,readResults P s.H s.T f.results.toList=some vs∧frz s.H 0 s.H.length 0 8 (packResults vs)=some r∧r.settle.view.dim=v:=fun e s ⟨g1,vs,g0,r,g2,g3⟩=>by
     exact ⟨g1,vs,r,by rw [readR_eq _ _ h4,g0],g2,g3⟩
    exact pure_fnW0 hmix hf hb (by simpa using h2) h1 hp (wpA_mono hq (link_ok h3 h))
   ·cases hl
  ·cases hl
 ·cases hl
theorem wp_loop {P:Program} {A:FAnn} {fn:FuncId} {lo:Nat} {rl:Option Nat} {keep:List Bool} {c:RC} {T T0:List AV} {H:List AObj} {Q:Ex→List AV→List AObj→Prop} (hT:zipKeep keep T=T0)
  (h:LoopI (fun T H Q=>nfK T fun T=>wpR P A fn lo rl c T H fun e T' H'=>match e with
   | .normal=>keepO (some keep) T' fun T'=>Q .normal T' H'
   | e=>Q e T' H') T0 H Q):wpR P A fn lo rl (.loop (some keep) c) T H Q:=by
 show keepO (some keep) T _
 rw [keepO_eq]
 subst hT;exact h
def optP {α:Type} (f:α→List AV):Option α→AV
 | none=>.nilp
 | some x=>.lptr (f x)
theorem pu_opt {α:Type} {f:α→List AV} {d:Nat} (h:∀ x,(f x).all (pureD d)=true) (x:Option α):pureD (d+1) (optP f x)=true:=by
 cases x with
 | none=>rfl
 | some x=>exact h x
abbrev U8 (n:Int):AV:=.int .u8 n
abbrev U16 (n:Int):AV:=.int .u16 n
theorem mapO_nil' {f:AV→Option AV}:mapO f []=some []:=rfl
theorem mapO_cons' {f:AV→Option AV} {x y:AV} {l r:List AV} (h:f x=some y) (k:mapO f l=some r):mapO f (x::l)=some (y::r):=by simp only [mapO,h,k,Option.map_some]
theorem frz_tup {H:List AObj} {lo i n d:Nat} {vs rs:List AV} (h:mapO (frz H lo i n d) vs=some rs):frz H lo i n (d+1) (.tuple vs)=some (.tuple rs):=by simp only [frz,h,Option.map_some]
theorem row_full {α:Type} {f:α→AV} {H:List AObj} {id n:Nat} {l:List α} {cap:Option Nat} (hH:H[id]?=some (.cells (l.map f))) (hn:n=l.length) (hv:∀ x,(f x).view=f x):rowOf H (.ref id 0 n cap 1)=some (l.map f):=by
 subst hn
 simp only [rowOf,hH,Nat.zero_add,Nat.mul_one,List.length_map,Nat.le_refl,if_true,List.drop_zero]
 rw [List.take_of_length_le (by simp),List.map_map]
 congr 1
 exact List.map_congr_left fun x _=>hv x
theorem shzR_row {α:Type} {f:α→AV} {H:List AObj} {id n:Nat} {l:List α} {cap:Option Nat} (hH:H[id]?=some (.cells (l.map f))) (hn:n=l.length) (hv:∀ x,(f x).view=f x):shzR H (.ref id 0 n cap 1)=.lst (l.map f) l.length .shared:=by
 subst hn
 simp only [shzR,row_full hH rfl hv]
theorem frz_row {α:Type} {f:α→AV} {H:List AObj} {id n d:Nat} {l:List α} {cap:Option Nat} (hH:H[id]?=some (.cells (l.map f))) (hn:n=l.length) (hp:∀ x,pureD d (f x)=true) (hv:∀ x,(f x).view=f x):frz H 0 H.length 0 (d+1) (.ref id 0 n cap 1)=some (.lst (l.map f) n (frzCap cap n)):=by
 have h1:=(List.getElem?_eq_some_iff.1 hH).1
 have h2:mapO (frz H 0 H.length 0 d) (l.map f)=some (l.map f):=mapO_id fun u hu=>by
  obtain ⟨x,_,rfl⟩:=List.mem_map.1 hu;exact frz_pure (hp x)
 simp only [frz,Nat.not_lt_zero,if_false,row_full hH hn hv,h2,Option.map_some]
 rw [if_neg (by omega)]
theorem call6' {P:Program} {k:FuncId} {xs cs bs:List AV} {H:List AObj} {lo:Nat} {v:AV} (hs:xs.map (shz H)=cs) (hb:cs.map AV.dim=bs) (hp:cs.all (pureD 8)=true) (h:PureOk P k bs v) (hv:scal v=true):CallS P 6 lo (.fn k) xs H v.dim H :=
 call6 (by rw [hs,hb]) (by rw [hs];exact hp) h hv
theorem map_cons' {f:AV→AV} {x y:AV} {l r:List AV} (h:f x=y) (k:l.map f=r):(x::l).map f=y::r:=by rw [List.map_cons,h,k]
theorem map_nil' {f:AV→AV}:([]:List AV).map f=[]:=rfl
theorem shz_func {H:List AObj} {k:FuncId} {a b a' b':List AV} (h1:a.map (shz0 H)=a') (h2:b.map (shz0 H)=b'):shz H (.func k a b)=.func k a' b':=by simp only [shz,h1,h2]
theorem shz0_ptr' {H:List AObj} {id off:Nat} {cs ds:List AV} (hH:H[id]?=some (.cells cs)) (he:((cs.drop off).map AV.view).map (shzR H)=ds):shz0 H (.ptr id off)=.lptr ds:=by simp only [shz0,hH,he]
def foldO {α σ:Type} (g:σ→α→Option σ):List α→σ→Option σ
 | [],s=>some s
 | x::l,s=>(g s x).bind fun t=>foldO g l t
theorem foldO_states {α σ:Type} {g:σ→α→Option σ}:∀ {l:List α} {s t:σ},foldO g l s=some t→∃ F:Nat→σ,F 0=s∧F l.length=t∧∀ (i:Nat) (h:i<l.length),g (F i) l[i]=some (F (i+1))
 | [],s,t,h=>⟨fun _=>s,rfl,Option.some.inj h,fun i hi=>absurd hi (by simp)⟩
 | x::l,s,t,h=>by
   obtain ⟨u,h1,h2⟩:=bd_some h
   obtain ⟨F,f1,f2,f3⟩:=foldO_states h2
   refine ⟨fun i=>match i with | 0=>s | i+1=>F i,rfl,f2,fun i hi=>?_⟩
   cases i with
   | zero=>show g s x=some (F 0);rw [f1,h1]
   | succ i=>exact f3 i (by simpa using hi)
def Seq (P:Program) (k:FuncId) (cap:List AV) (E:List AV):Prop :=
 ∀ (l N:Nat) (Pre:Nat→List AObj),(∀ i,(Pre i).length=N)→l<N →
   (∀ (i:Nat) (h:i<E.length) (Y:List AObj),∃ Y',Sem P (.yield l) [E[i]] (Pre i++Y) 0 (.bool true) (Pre (i+1)++Y')) →
   ∀ Y,∃ Y',Sem P (.fn k) (.yield l::cap) (Pre 0++Y) 0 (.tuple []) (Pre E.length++Y')
theorem seq_states {P:Program} {l:Nat} {Pre:Nat→List AObj} {E:List AV} (hr:∀ (i:Nat) (h:i<E.length) (Y:List AObj),∃ Y',Sem P (.yield l) [E[i]] (Pre i++Y) 0 (.bool true) (Pre (i+1)++Y')) (Y:List AObj) :
  ∃ Z:Nat→List AObj,Z 0=Y∧∀ (i:Nat) (h:i<E.length),Sem P (.yield l) [E[i]] (Pre i++Z i) 0 (.bool true) (Pre (i+1)++Z (i+1)):=by
 classical
 have hr':∀ (i:Nat) (Y:List AObj),∃ Y',∀ h:i<E.length,Sem P (.yield l) [E[i]] (Pre i++Y) 0 (.bool true) (Pre (i+1)++Y'):=fun i Y=>by
  by_cases h:i<E.length
  ·obtain ⟨Y',h'⟩:=hr i h Y;exact ⟨Y',fun _=>h'⟩
  ·exact ⟨[],fun h'=>absurd h' h⟩
 exact ⟨fun n=>Nat.rec Y (fun i Z=>Classical.choose (hr' i Z)) n,rfl,fun i h=>Classical.choose_spec (hr' i _) h⟩
theorem low0 {H X:List AObj} (h:H.length≤X.length):Low 0 H X:=⟨h,fun _ h _=>absurd h (by omega)⟩
theorem set_mid (X Y:List AObj) (c d:AObj):((X++[c])++Y).set X.length d=(X++[d])++Y:=by
 rw [List.append_assoc,List.set_append_right _ _ (Nat.le_refl _)];simp
theorem get_mid (X Y:List AObj) (c:AObj):((X++[c])++Y)[X.length]?=some c:=by
 rw [List.append_assoc,List.getElem?_append_right (Nat.le_refl _)];simp
theorem rng_ok {α:Type} {P:Program} {A:FAnn} {fn:FuncId} {rl:Option Nat} {k:FuncId} {cap:List AV} {ps:List Nat} {as' bd:Code} {T:List AV} {H Hn:List AObj} {Q:Ex→List AV→List AObj→Prop} {f:α→AV} {L:List α} (hseq:Seq P k cap (L.map f))
  (Obj:Nat→List AObj) (h0:Obj 0=H) (hlen:∀ i,(Obj i).length=H.length)
  (hround:∀ (i:Nat) (h:i<L.length) (Y:List AObj),∃ Y',Sem P (.yield H.length) [f L[i]] ((Obj i++[.loop .ready none fn (T.map AV.view) ps as' bd A])++Y) 0 (.bool true) ((Obj (i+1)++[.loop .ready none fn (T.map AV.view) ps as' bd A])++Y'))
  (hin:inLoop H rl=true) (hn:Obj L.length=Hn) (hQ:∀ Y',Q .normal (T.map AV.settle) ((Hn++[.dead])++Y')):rngK P A fn 0 rl (.func k [] cap) ps as' bd T H Q:=by
 obtain ⟨Y',hS⟩:=hseq H.length (H.length+1) (fun i=>Obj i++[.loop .ready none fn (T.map AV.view) ps as' bd A]) (fun i=>by simp [hlen]) (by omega) (fun i h Y=>by
  have h':i<L.length:=by simpa using h
  obtain ⟨Y',hr⟩:=hround i h' Y
  exact ⟨Y',by rw [List.getElem_map];exact hr⟩) []
 subst hn
 simp only [List.append_nil,List.length_map,h0] at hS
 have hl:(Obj L.length).length=H.length:=hlen _
 refine ⟨hin,.tuple [],_,.ready,none,fn,T.map AV.view,ps,as',bd,A,hS,by rw [←hl];exact get_mid _ _ _,by decide,?_⟩
 show Q .normal (T.map AV.settle) (((Obj L.length++[AObj.loop .ready none fn (T.map AV.view) ps as' bd A])++Y').set H.length .dead)
 rw [←hl,set_mid];exact hQ Y'
end Go.Proofs.YtbnbjjgagikobaaGreat.Ab


namespace Go.Proofs.YtbnbjjgagikobaaGreat.Ab
open Go
def capEq:Cap→Cap→Bool
 | .shared,.shared=>true
 | .full,.full=>true
 | .own a,.own b=>Nat.beq a b
 | .uniq a,.uniq b=>Nat.beq a b
 | _,_=>false
theorem capEq_ok:∀ {a b:Cap},capEq a b=true→a=b:=by
 intro a b h
 cases a <;> cases b <;> simp only [capEq,Bool.false_eq_true] at h <;> first | rfl | (rw [Nat.eq_of_beq_eq_true h])
def lEq (f:AV→AV→Bool):List AV→List AV→Bool
 | [],[]=>true
 | a::l,b::r=>match f a b with
   | true=>lEq f l r
   | false=>false
 | _,_=>false
theorem lEq_ok {f:AV→AV→Bool} (hf:∀ a b,f a b=true→a=b):∀ {a b:List AV},lEq f a b=true→a=b
 | [],[],_=>rfl
 | [],_::_,h=>by simp [lEq] at h
 | _::_,[],h=>by simp [lEq] at h
 | a::l,b::r,h=>by
   simp only [lEq] at h
   split at h
   ·rename_i hab;rw [hf a b hab,lEq_ok hf h]
   ·cases h
def avEq:Nat→AV→AV→Bool
 | 0,_,_=>false
 | d+1,a,b=>match a,b with
   | .bool x,.bool y=>match x,y with | true,true=>true | false,false=>true | _,_=>false
   | .int k x,.int q y=>match decide (k=q),decide (x=y) with | true,true=>true | _,_=>false
   | .nilp,.nilp=>true
   | .lptr x,.lptr y=>lEq (avEq d) x y
   | .lst x n c,.lst y m e=>match lEq (avEq d) x y,Nat.beq n m,capEq c e with | true,true,true=>true | _,_,_=>false
   | .func f x y,.func g z w=>match Nat.beq f g,lEq (avEq d) x z,lEq (avEq d) y w with | true,true,true=>true | _,_,_=>false
   | .agg x,.agg y=>lEq (avEq d) x y
   | .tuple x,.tuple y=>lEq (avEq d) x y
   | _,_=>false
theorem avEq_ok:∀ (d:Nat) (a b:AV),avEq d a b=true→a=b
 | 0,_,_,h=>by simp [avEq] at h
 | d+1,a,b,h=>by
   have ih:=avEq_ok d
   unfold avEq at h
   split at h
   ·split at h <;> first | rfl | cases h
   ·rename_i k x q y
    split at h
    ·rename_i h1 h2;rw [of_decide_eq_true h1,of_decide_eq_true h2]
    ·cases h
   ·rfl
   ·rw [lEq_ok ih h]
   ·split at h
    ·rename_i h1 h2 h3;rw [lEq_ok ih h1,Nat.eq_of_beq_eq_true h2,capEq_ok h3]
    ·cases h
   ·split at h
    ·rename_i h1 h2 h3;rw [Nat.eq_of_beq_eq_true h1,lEq_ok ih h2,lEq_ok ih h3]
    ·cases h
   ·rw [lEq_ok ih h]
   ·rw [lEq_ok ih h]
   ·cases h
inductive Ent where
 | pure (k:Nat) (args:List AV) (v:AV)
 | map (k:Nat) (args:List AV) (es:List (Nat×AV×AV)) (clock:Nat)
def entOk (P:Program):Ent→Prop
 | .pure k args v=>PureOk P k args v
 | .map k args es clock=>∀ H,Sem P (.fn k) args H H.length (.map H.length) (H++[.map es clock])
def look (k:Nat) (args:List AV) (H:List AObj) (lo:Nat):List Ent→Option (AV×List AObj)
 | []=>none
 | .pure q bs v::r=>match Nat.beq k q with
   | true=>match lEq (avEq 20) args bs with
     | true=>match H with
       | []=>some (v,[])
       | _=>look k args H lo r
     | false=>look k args H lo r
   | false=>look k args H lo r
 | .map q bs es clock::r=>match Nat.beq k q with
   | true=>match lEq (avEq 20) args bs with
     | true=>match Nat.beq lo H.length with
       | true=>some (.map H.length,H++[.map es clock])
       | false=>look k args H lo r
     | false=>look k args H lo r
   | false=>look k args H lo r
def tabOf (l:List Ent):CallFn:=fun tgt args H lo=>match tgt with
 | .fn k=>look k args H lo l
 | _=>none
theorem Sem.lo0 {P:Program} {tgt:Tgt} {args:List AV} {r:AV} {H':List AObj} (h:Sem P tgt args [] 0 r H') (lo:Nat):Sem P tgt args [] lo r H' :=
 ⟨⟨h.1.1,fun _ _ h=>by simp at h⟩,h.2⟩
theorem look_ok {P:Program} {k:Nat} {args:List AV} {H:List AObj} {lo:Nat} {r:AV} {H':List AObj}:∀ {l:List Ent},(∀ e∈l,entOk P e)→look k args H lo l=some (r,H')→Sem P (.fn k) args H lo r H'
 | [],_,h=>by simp [look] at h
 | .pure q bs v::l,hl,h=>by
   have hrec:=look_ok (k:=k) (args:=args) (H:=H) (lo:=lo) (r:=r) (H':=H') fun e he=>hl e (List.mem_cons_of_mem _ he)
   unfold look at h
   split at h
   ·rename_i h1
    split at h
    ·rename_i h2
     split at h
     ·cases h
      have:=hl (.pure q bs r) List.mem_cons_self
      rw [Nat.eq_of_beq_eq_true h1,lEq_ok (avEq_ok 20) h2]
      exact this.1.lo0 lo
     ·exact hrec h
    ·exact hrec h
   ·exact hrec h
 | .map q bs es clock::l,hl,h=>by
   have hrec:=look_ok (k:=k) (args:=args) (H:=H) (lo:=lo) (r:=r) (H':=H') fun e he=>hl e (List.mem_cons_of_mem _ he)
   unfold look at h
   split at h
   ·rename_i h1
    split at h
    ·rename_i h2
     split at h
     ·rename_i h3
      cases h
      have:=hl (.map q bs es clock) List.mem_cons_self
      rw [Nat.eq_of_beq_eq_true h1,lEq_ok (avEq_ok 20) h2,Nat.eq_of_beq_eq_true h3]
      exact this H
     ·exact hrec h
    ·exact hrec h
   ·exact hrec h
theorem tab_sound {P:Program} {l:List Ent} (hl:∀ e∈l,entOk P e):CSound P (tabOf l):=csound_of fun tgt args H lo r H' h=>by
 cases tgt with
 | fn k=>exact look_ok hl h
 | yield i=>simp [tabOf] at h
def okFrom (A:FuncId→FAnn):Nat→List Func→Bool
 | _,[]=>true
 | k,f::r=>match f.body with
   | some c => match codeOk (A k) c, f.name == "runtime.NumGoroutine" with
     | true,false=>okFrom A (k+1) r
     | _,_=>false
   | none=>okFrom A (k+1) r
theorem okFrom_ok {A : FuncId → FAnn} : ∀ {l : List Func} {k : Nat}, okFrom A k l = true → ∀ (i : Nat) (f : Func) (c : Code), l[i]? = some f → f.body = some c → codeOk (A (k + i)) c = true ∧ f.name ≠ "runtime.NumGoroutine"
 | [],_,_,i,f,c,h,_=>by simp at h
 | g::r,k,h,i,f,c,hf,hc=>by
   unfold okFrom at h
   cases i with
   | zero =>
     simp at hf;subst hf
     rw [hc] at h
     simp only at h
     split at h
     ·rename_i h1 h2;exact ⟨h1,by simpa using h2⟩
     ·cases h
   | succ i =>
     have hr:okFrom A (k+1) r=true:=by
      split at h
      ·split at h
       ·exact h
       ·cases h
      ·exact h
     have:=okFrom_ok hr i f c (by simpa using hf) hc
     rw [show k+(i+1)=k+1+i by omega];exact this
theorem okAll {P : Program} {A : FuncId → FAnn} (h : okFrom A 0 P.funcs.toList = true) (k : Nat) (f : Func) (c : Code) (hf : P.funcs[k]? = some f) (hc : f.body = some c) : codeOk (A k) c = true ∧ f.name ≠ "runtime.NumGoroutine" := by
 have:=okFrom_ok h k f c (by simpa using hf) hc
 rwa [Nat.zero_add] at this
theorem ann_ok:okFrom ann 0 Go.Proofs.Tryz.prog.funcs.toList=true:=by kernel_rfl
noncomputable def runC (l:List Ent) (k:Nat) (args:List AV):Option AV:=match callF Go.Proofs.Tryz.prog ann (tabOf l) 300 (.fn k) args [] 0 with
 | some (r,H2)=>match frz H2 0 H2.length 0 8 r with
   | some v=>match pureD 8 v.settle with
     | true=>some v.settle
     | false=>none
   | none=>none
 | none=>none
theorem runC_ok {l:List Ent} (hl:∀ e∈l,entOk Go.Proofs.Tryz.prog e) {k:Nat} {args:List AV} {v:AV} (h:runC l k args=some v):PureOk Go.Proofs.Tryz.prog k args v:=by
 unfold runC at h
 split at h
 ·rename_i r H2 hc
  split at h
  ·rename_i u hf
   split at h
   ·rename_i hp
    cases h
    have hs:=(callF_sound hmix ann (tab_sound hl) (okAll ann_ok) 300).sem hc
    refine ⟨⟨Low.refl _ _,hs.2.1,fun B ω κ S w xs hH hn hv=>CallsIn.mono (hs.2.2 B ω κ S w xs hH hn hv) fun e w' he=>?_⟩,hp⟩
    cases e with
    | returned x =>
      have hpost:=post_frz hH (fun id hid=>by simp at hid) hf he
      show Post B ω κ S w [] u.settle x w'
      cases u with
      | lst cells len cp =>
        cases cp with
        | uniq z=>exact hpost.settle
        | _=>exact hpost
      | _=>exact hpost
    | panicked c=>exact he.elim
    | outgrown=>exact he.elim
   ·cases h
  ·cases h
 ·cases h
end Go.Proofs.YtbnbjjgagikobaaGreat.Ab


namespace Go.Proofs.YtbnbjjgagikobaaGreat.Ab
open Go
noncomputable def rc59_1:RC :=
 .reg true [I_ 28 [.sl 5] .mv,I_ 29 [.tv 7] (.fa 0),I_ 30 [.tv 29] (.ld .one),I_ 31 [.sl 28] .nilc,I_ 32 [.tv 31] (.fa 6),I_ 33 [.tv 32,.sl 30] (.iaA 21 1),I_ 34 [.tv 33] (.ld .one),I_ 35 [.tv 34,.cv (.int .i64 1)] (.bin
 .add),I_ 36 [.sl 28] .nilc,I_ 37 [.tv 36] (.fa 6),I_ 38 [.tv 37,.sl 30] (.iaA 21 1),⟨none,[.tk 38,.tk 35],none,none,.st 1⟩]
noncomputable def rc59_2:RC :=
 .block 1 (.seq (.reg false [I_ 26 [.sl 22,.sl 24] (.ia 2),I_ 27 [.tv 26] (.ld (.str 2)),I_ 7 [] (.alloc [.int .i64 0,.int .i64 0]),⟨none,[.sl 7,.tk 27],none,none,.st 2⟩]) rc59_1)
noncomputable def rc59_3:RC :=
 .reg false [I_ 49 [.sl 8] .mv,I_ 50 [.sl 9] .mv,I_ 51 [.tv 50] (.build [.int .i64 0] [(0,1)]),I_ 52 [.tk 9] .mv,⟨none,[.tv 49,.tv 51,.tv 52],none,none,.mUp (.str 1)⟩]
noncomputable def rc59_4:RC :=
 .block 3 (.seq (.reg false [I_ 48 [.sl 46] .mv,I_ 9 [.tk 48] .mv]) rc59_3)
noncomputable def rc59_5:RC :=
 .reg false [I_ 64 [.sl 8] .mv,I_ 65 [.tk 11] .mv,I_ 66 [.tv 65] (.build [.int .i64 0] [(0,1)]),⟨none,[.tk 64,.tk 66],none,none,.mDel (.str 1)⟩]
noncomputable def rc59_6:RC :=
 .block 5 (.seq (.reg false [I_ 62 [.sl 58,.sl 60] (.ia 1),I_ 63 [.tv 62] (.ld .one),I_ 11 [.tk 63] .mv]) rc59_5)
noncomputable def rc59_7:RC :=
 .reg false [I_ 74 [.sl 5] .mv,I_ 75 [.sl 5] .mv,I_ 76 [.tv 75] .nilc,I_ 77 [.tv 76] (.fa 5),I_ 78 [.tv 77] .take,I_ 79 [.tk 13] .mv,I_ 80 [.tv 79] (.buildS 1 1 [.int .i64 0] [0]),I_ 81 [.tk 78,.tk 80] (.app 1 8),I_ 82
 [.tv 74] .nilc,I_ 83 [.tv 82] (.fa 5),⟨none,[.tk 83,.tk 81],none,none,.stR⟩]
noncomputable def rc59_8:RC :=
 .seq (.nxt 69 (some 70) [I_ 71 [.tv 70] (.ext 0)]) (.seq (.cond (.sl 71) .skip (.exit 6)) (.block 7 (.seq (.reg false [I_ 72 [.sl 69] .ent,I_ 73 [.tv 72] (.ext 1),I_ 13 [.tk 73] .mv]) rc59_7)))
noncomputable def rc59_9:RC :=
 .seq (.reg false [I_ 84 [.sl 5] .mv,I_ 85 [.tv 84] .nilc,I_ 86 [.tv 85] (.fa 5),I_ 87 [.tv 86] .takeT,I_ 88 [.cv (.func 84 [] []),.tk 87] (.call 1)]) (.seq (.reg false [I_ 89 [.tk 5] .mv,I_ 4 [.tk 89] .mv]) .ret)
noncomputable def rc59_10:RC :=
 .seq (.seq (.reg false [I_ 54 [.sl 5] .mv,I_ 55 [.tv 54] .nilc,I_ 56 [.tv 55] (.fa 0),I_ 57 [.tv 56] (.fa 1),I_ 58 [.tv 57] (.ld .one),I_ 59 [.sl 58] .lenS,I_ 60 [.cv (.int .i64 0)] .mv]) (.block 4 (.loop (some [o_,o_,o_,o_,o_,i_,o_,o_,i_,o_,o_,o_,o_,o_,o_,o_,o_,o_,o_,o_,o_,o_,o_,o_,o_,o_,o_,o_,o_,o_,o_,o_,o_,o_,o_,o_,o_,o_,o_,o_,o_,o_,o_,o_,o_,o_,o_,o_,o_,o_,o_,o_,o_,o_,o_,o_,o_,o_,i_,i_,i_,o_,o_,o_,o_,o_,o_,o_,o_,o_,o_,o_,o_,o_,o_,o_,o_,o_,o_,o_,o_,o_,o_,o_,o_,o_,o_,o_,o_,o_]) (.seq (.reg false [I_ 61 [.sl 60,.sl 59] (.bin .lss)])
 (.seq (.cond (.sl 61) .skip (.exit 4)) (.seq rc59_6 (.reg false [I_ 67 [.tv 60,.cv (.int .i64 1)] (.bin .add),I_ 60 [.tk 67] .mv]))))))) (.seq (.seq (.reg false [I_ 68 [.tk 8] .mv,I_ 69 [.tv 68] .rngM]) (.block 6 (.loop
 (some [o_,o_,o_,o_,o_,i_,o_,o_,o_,o_,o_,o_,o_,o_,o_,o_,o_,o_,o_,o_,o_,o_,o_,o_,o_,o_,o_,o_,o_,o_,o_,o_,o_,o_,o_,o_,o_,o_,o_,o_,o_,o_,o_,o_,o_,o_,o_,o_,o_,o_,o_,o_,o_,o_,o_,o_,o_,o_,o_,o_,o_,o_,o_,o_,o_,o_,o_,o_,o_,i_,o_,o_,o_,o_,o_,o_,o_,o_,o_,o_,o_,o_,o_,o_,o_,o_,o_,o_,o_,o_]) rc59_8))) rc59_9)
noncomputable def rc59_11:RC :=
 .seq (.seq (.reg false [I_ 41 [.sl 5] .mv,I_ 42 [.tv 41] .nilc,I_ 43 [.tv 42] (.fa 0),I_ 44 [.tv 43] (.fa 0),I_ 45 [.tv 44] (.ld .one),I_ 46 [.cv (.int .i64 0)] .mv]) (.block 2 (.loop (some [o_,o_,o_,o_,o_,i_,o_,o_,i_,o_,o_,o_,o_,o_,o_,o_,o_,o_,o_,o_,o_,o_,o_,o_,o_,o_,o_,o_,o_,o_,o_,o_,o_,o_,o_,o_,o_,o_,o_,o_,o_,o_,o_,o_,o_,i_,i_,o_,o_,o_,o_,o_,o_,o_,o_,o_,o_,o_,o_,o_,o_,o_,o_,o_,o_,o_,o_,o_,o_,o_,o_,o_,o_,o_,o_,o_,o_,o_,o_,o_,o_,o_,o_,o_,o_,o_,o_,o_,o_,o_]) (.seq (.reg false [I_ 47 [.sl 46,.sl 45] (.bin .lss)]) (.seq (.cond
 (.sl 47) .skip (.exit 2)) (.seq rc59_4 (.reg false [I_ 53 [.tv 46,.cv (.int .i64 1)] (.bin .add),I_ 46 [.tk 53] .mv]))))))) rc59_10
noncomputable def rc59_12:RC :=
 .seq (.seq (.reg false [I_ 22 [.tk 1] .mv,I_ 23 [.sl 22] .lenS,I_ 24 [.cv (.int .i64 0)] .mv]) (.block 0 (.loop (some [o_,o_,o_,o_,o_,i_,o_,o_,o_,o_,o_,o_,o_,o_,o_,o_,o_,o_,o_,o_,o_,o_,i_,i_,i_,o_,o_,o_,o_,o_,o_,o_,o_,o_,o_,o_,o_,o_,o_,o_,o_,o_,o_,o_,o_,o_,o_,o_,o_,o_,o_,o_,o_,o_,o_,o_,o_,o_,o_,o_,o_,o_,o_,o_,o_,o_,o_,o_,o_,o_,o_,o_,o_,o_,o_,o_,o_,o_,o_,o_,o_,o_,o_,o_,o_,o_,o_,o_,o_,o_]) (.seq (.reg false [I_ 25 [.sl 24,.sl 23] (.bin .lss)]) (.seq (.cond (.sl 25) .skip (.exit 0)) (.seq rc59_2 (.reg false [I_ 39 [.tv 24,.cv (.int .i64 1)]
 (.bin .add),I_ 24 [.tk 39] .mv]))))))) (.seq (.reg false [I_ 40 [] .mkM,I_ 8 [.tk 40] .mv]) rc59_11)
noncomputable def rc59_13:RC :=
 .seq (.reg false [I_ 18 [.sl 5] .mv, I_ 19 [.tv 18] .nilc, I_ 20 [.tv 19] (.fa 6), I_ 21 [.tk 20] (.other (Oper.mk (some 21) (Op.slice 77 (Operand.tmp 20) none none none) 22 "bench.go:35" (Array.mk [Edge.mk 2 Ground.data]) none)
 0), ⟨none, [.tk 21], none, none, .other (Oper.mk none (Op.call (Call.mk (Callee.builtin Builtin.clear) (Array.mk [Operand.tmp 21]) (Array.mk [22]))) 0 "bench.go:35" (Array.mk [Edge.mk 3 Ground.data]) none) 0⟩]) rc59_12
noncomputable def rc59_14:RC :=
 .seq (.reg false [I_ 14 [.tv 2] (.ld (.str 4)),I_ 15 [.sl 1] .mv,I_ 16 [.tv 14,.tv 15] (.build [.int .i64 0,.lst [] 0 .full,.int .i64 0,.int .i64 0,.lst [] 0 .full,.lst [] 0 .full,.int .i64 0,.int .i64 0,.int .i64 0,
 .int .i64 0,.int .i64 0,.int .i64 0,.int .i64 0,.int .i64 0,.int .i64 0,.int .i64 0,.int .i64 0,.int .i64 0,.int .i64 0,.int .i64 0,.int .i64 0,.int .i64 0,.int .i64 0,.int .i64 0,.int .i64 0,.int .i64 0,.int
 .i64 0] [(0,4),(4,1)]),I_ 17 [.tk 16] .box,I_ 5 [.tk 17] .mv]) rc59_13
noncomputable def rc59:RC :=
 .seq (.reg false [I_ 2 [.tk 0] .box,I_ 4 [.cv .nilp] .mv]) rc59_14
theorem lk59:linkF Go.Proofs.Tryz.prog ann59 59=some (rc59,90,[.tmp 4]):=by kernel_rfl
noncomputable def rc105_1:RC :=
 .seq (.reg false [I_ 24 [.tk 0] .mv,I_ 25 [.tk 1] .mv,I_ 26 [.tk 2] .mv,I_ 27 [.cv (.func 110 [] []),.tk 24,.tk 25,.tk 26] (.call 1)]) .ret
noncomputable def rc105_2:RC :=
 .seq (.reg false [I_ 30 [.tk 0] .mv,I_ 31 [.tk 1] .mv,I_ 32 [.tk 2] .mv,I_ 33 [.cv (.func 111 [] []),.tk 30,.tk 31,.tk 32] (.call 1)]) .ret
noncomputable def rc105_3:RC :=
 .seq (.reg false [I_ 36 [.sl 0] .mv,I_ 37 [.sl 1] .mv,I_ 38 [.sl 2] .mv,I_ 39 [.cv (.func 112 [] []),.tk 36,.tk 37,.tk 38] (.call 1)]) (.reg false [I_ 40 [.tk 3] .mv,I_ 41 [.tv 40,.cv (.int .i64 1)] (.bin .sub),I_ 3 [.tk
 41] .mv])
noncomputable def rc105_4:RC :=
 .seq (.reg false [I_ 55 [.sl 2] .mv,I_ 56 [.tv 55,.cv (.int .i64 1)] (.bin .sub),I_ 57 [.tk 11] .mv,I_ 58 [.sl 1] .mv,I_ 59 [.tv 57,.tv 58] (.bin .sub),I_ 60 [.tv 56,.tv 59] (.bin .sub),I_ 11 [.tk 60] .mv]) (.reg false
 [I_ 12 [.cv (.int .i64 1)] .mv])
noncomputable def rc105_5:RC :=
 .seq (.reg false [I_ 51 [.sl 0] .mv,I_ 52 [.sl 1] .mv,I_ 53 [.sl 2] .mv,I_ 54 [.cv (.func 114 [] []),.tk 51,.tk 52,.tk 53] (.call 1)]) rc105_4
noncomputable def rc105_6:RC :=
 .seq (.reg false [I_ 69 [.sl 0] .mv,I_ 70 [.sl 1] .mv,I_ 71 [.sl 2] .mv,I_ 72 [.cv (.func 115 [] []),.tk 69,.tk 70,.tk 71] (.call 1)]) (.cond (.sl 72) .ret .skip)
noncomputable def rc105_7:RC :=
 .seq (.reg false [I_ 88 [.sl 0] .mv,I_ 89 [.tk 1] .mv,I_ 90 [.sl 2] .mv,I_ 91 [.tk 11] .mv,I_ 92 [.cv (.func 117 [] []),.tk 88,.tk 89,.tk 90,.tk 91] (.call 1),I_ 13 [.tk 92] .mv]) (.seq (.reg false [I_ 93 [.tk 13] .mv,
 I_ 1 [.tk 93] .mv]) (.exit 1))
noncomputable def rc105_8:RC :=
 .seq (.reg false [I_ 117 [.sl 0] .mv,I_ 118 [.tk 1] .mv,I_ 119 [.sl 14] .mv,I_ 120 [.sl 3] .mv,I_ 121 [.cv (.func 105 [] []),.tk 117,.tk 118,.tk 119,.tk 120] (.call 1)]) (.reg false [I_ 122 [.tk 14] .mv,I_ 123 [.tv 122,
 .cv (.int .i64 1)] (.bin .add),I_ 1 [.tk 123] .mv])
noncomputable def rc105_9:RC :=
 .seq (.reg false [I_ 114 [.tk 16] .mv,I_ 115 [.tk 18] .mv,I_ 116 [.tv 114,.tv 115] (.bin .geq),I_ 8 [.tk 116] .mv]) rc105_8
noncomputable def rc105_10:RC :=
 .seq (.reg false [I_ 127 [.sl 0] .mv,I_ 128 [.sl 14] .mv,I_ 129 [.tv 128,.cv (.int .i64 1)] (.bin .add),I_ 130 [.tk 2] .mv,I_ 131 [.sl 3] .mv,I_ 132 [.cv (.func 105 [] []),.tk 127,.tk 129,.tk 130,.tk 131] (.call 1)])
 (.reg false [I_ 133 [.tk 14] .mv,I_ 2 [.tk 133] .mv])
noncomputable def rc105_11:RC :=
 .seq (.reg false [I_ 124 [.tk 17] .mv,I_ 125 [.tk 18] .mv,I_ 126 [.tv 124,.tv 125] (.bin .geq),I_ 8 [.tk 126] .mv]) rc105_10
noncomputable def rc105_12:RC :=
 .seq (.reg false [I_ 109 [.tk 10] .mv,I_ 110 [.tv 109,.cv (.int .i64 8)] (.bin .quo),I_ 18 [.tk 110] .mv]) (.seq (.reg false [I_ 111 [.sl 16] .mv,I_ 112 [.sl 17] .mv,I_ 113 [.tv 111,.tv 112] (.bin .lss)]) (.cond (.sl 113)
 rc105_9 rc105_11))
noncomputable def rc105_13:RC :=
 .seq (.reg false [I_ 103 [.sl 14] .mv,I_ 104 [.sl 1] .mv,I_ 105 [.tv 103,.tv 104] (.bin .sub),I_ 106 [.sl 2] .mv,I_ 107 [.sl 14] .mv,I_ 108 [.tv 106,.tv 107] (.bin .sub),I_ 16 [.tk 105] .mv,I_ 17 [.tk 108] .mv]) rc105_12
noncomputable def rc105_14:RC :=
 .seq (.reg false [I_ 95 [.sl 0] .mv,I_ 96 [.sl 1] .mv,I_ 97 [.sl 2] .mv,I_ 98 [.tk 11] .mv,I_ 99 [.cv (.func 118 [] []),.tk 95,.tk 96,.tk 97,.tk 98] (.call 1),I_ 94 [.tk 99] .mv,I_ 100 [.sl 94] (.ext 0),I_ 101 [.tv 94]
 (.ext 1),I_ 14 [.tk 100] .mv,I_ 15 [.tk 101] .mv]) (.seq (.reg false [I_ 102 [.tk 15] .mv,I_ 9 [.tk 102] .mv]) rc105_13)
noncomputable def rc105_15:RC :=
 .seq (.seq (.reg true [I_ 73 [.sl 1] .mv,I_ 74 [.tv 73,.cv (.int .i64 0)] (.bin .gtr),I_ 75 [.tk 74] .mv,⟨some 76,[.sl 0],some (75,true),none,.mv⟩,⟨some 77,[.sl 1],some (75,true),none,.mv⟩,⟨some 78,[.tv 77,.cv
 (.int .i64 1)],some (75,true),none,.bin .sub⟩,⟨some 79,[.tv 76,.tv 78],some (75,true),none,.ia 1⟩,⟨some 80,[.tv 79],some (75,true),none,.ld .one⟩,⟨some 81,[.sl 0],some (75,true),none,.mv⟩,⟨some 82,[.sl
 11],some (75,true),none,.mv⟩,⟨some 83,[.tv 81,.tv 82],some (75,true),none,.ia 1⟩,⟨some 84,[.tv 83],some (75,true),none,.ld .one⟩,⟨some 85,[.cv (.func 116 [] []),.sl 80,.sl 84],some (75,true),none,.call
 3⟩,⟨some 86,[.tv 85],some (75,true),none,.un .not⟩,I_ 87 [.sl 75,.tv 86,.cv (.bool false)] .pick]) (.cond (.sl 87) rc105_7 .skip)) rc105_14
noncomputable def rc105_16:RC :=
 .seq (.seq (.reg false [I_ 61 [.sl 8] .mv,I_ 62 [.tk 61] .mv,⟨some 63,[.sl 9],some (62,true),none,.mv⟩,I_ 64 [.tv 62,.tv 63,.cv (.bool false)] .pick,I_ 65 [.tk 64] .mv,⟨some 66,[.tk 12],some (65,true),none,.mv⟩,
 ⟨some 67,[.tv 66,.cv (.int .i64 1)],some (65,true),none,.bin .eql⟩,I_ 68 [.tv 65,.tv 67,.cv (.bool false)] .pick]) (.cond (.sl 68) rc105_6 .skip)) rc105_15
noncomputable def rc105_17:RC :=
 .seq (.reg false [I_ 43 [.sl 0] .mv,I_ 44 [.sl 1] .mv,I_ 45 [.sl 2] .mv,I_ 46 [.cv (.func 113 [] []),.tk 43,.tk 44,.tk 45] (.call 1),I_ 42 [.tk 46] .mv,I_ 47 [.sl 42] (.ext 0),I_ 48 [.tv 42] (.ext 1),I_ 11 [.tk 47] .mv,
 I_ 12 [.tk 48] .mv]) (.seq (.seq (.reg false [I_ 49 [.sl 12] .mv,I_ 50 [.tv 49,.cv (.int .i64 2)] (.bin .eql)]) (.cond (.sl 50) rc105_5 .skip)) rc105_16)
noncomputable def rc105_18:RC :=
 .seq (.seq (.reg false [I_ 28 [.sl 3] .mv,I_ 29 [.tv 28,.cv (.int .i64 0)] (.bin .eql)]) (.cond (.sl 29) rc105_2 .skip)) (.seq (.seq (.reg false [I_ 34 [.sl 8] .mv,I_ 35 [.tv 34] (.un .not)]) (.cond (.sl 35) rc105_3 .skip))
 rc105_17)
noncomputable def rc105_19:RC :=
 .block 1 (.seq (.reg false [I_ 19 [.sl 2] .mv,I_ 20 [.sl 1] .mv,I_ 21 [.tv 19,.tv 20] (.bin .sub),I_ 10 [.tk 21] .mv]) (.seq (.seq (.reg false [I_ 22 [.sl 10] .mv,I_ 23 [.tv 22,.cv (.int .i64 12)] (.bin .leq)]) (.cond (.sl
 23) rc105_1 .skip)) rc105_18))
noncomputable def rc105:RC :=
 .seq (.reg false [I_ 8 [.cv (.bool true)] .mv]) (.seq (.reg false [I_ 9 [.cv (.bool true)] .mv]) (.block 0 (.loop (some [i_,i_,i_,i_,o_,o_,o_,o_,i_,i_,o_,o_,o_,o_,o_,o_,o_,o_,o_,o_,o_,o_,o_,o_,o_,o_,o_,o_,o_,o_,o_,o_,o_,o_,o_,o_,o_,o_,o_,o_,o_,o_,o_,o_,o_,o_,o_,o_,o_,o_,o_,o_,o_,o_,o_,o_,o_,o_,o_,o_,o_,o_,o_,o_,o_,o_,o_,o_,o_,o_,o_,o_,o_,o_,o_,o_,o_,o_,o_,o_,o_,o_,o_,o_,o_,o_,o_,o_,o_,o_,o_,o_,o_,o_,o_,o_,o_,o_,o_,o_,o_,o_,o_,o_,o_,o_,o_,o_,o_,o_,o_,o_,o_,o_,o_,o_,o_,o_,o_,o_,o_,o_,o_,o_,o_,o_,o_,o_,o_,o_,o_,o_,o_,o_]) rc105_19)))
theorem lk105:linkF Go.Proofs.Tryz.prog ann105 105=some (rc105,134,[]):=by kernel_rfl
end Go.Proofs.YtbnbjjgagikobaaGreat.Ab


namespace Go.Proofs.YtbnbjjgagikobaaGreat.Ab
open Go
set_option maxRecDepth 20000
set_option maxHeartbeats 4000000
theorem isNaN_ok (x:Int):PO 127 [I x] (B false):=by
 refine fn_pure hmix lk127 rfl rfl ?_
 unfold rc127
 conv=>whnf
 exact ret_pure (.inr rfl) rfl (by rw [decide_eq_false (show ¬ (x≠x) from fun h=>h rfl)];rfl)
theorem less_ok (x y:Int):PO 116 [I x,I y] (B (decide (x<y))):=by
 refine fn_pure hmix lk116 rfl rfl ?_
 unfold rc116
 conv=>whnf
 refine ⟨by first | rfl | simp only [List.all_cons,List.all_nil,pu0,pub,pu1,pu2,pu1',pu2',pun,puf,puP,puP',puQ,puQ',Bool.and_true,Bool.and_self],_,isNaN_ok x,?_⟩
 conv=>whnf
 exact ret_pure (.inr rfl) rfl rfl
def Cd (d:Array Int):AObj:=.cells (d.toList.map I)
def Da (id n:Nat):AV:=.ref id 0 n none 1
theorem cd_get (d:Array Int) (x:Nat) (h:x<d.size):(d.toList.map I)[x]?=some (I d[x]!):=by
 simp [h]
theorem cd_set (d:Array Int) (x:Nat) (v:Int):(d.toList.map I).set x (I v)=(d.setIfInBounds x v).toList.map I:=by
 simp [List.map_set]
theorem swp_size (d:Array Int) (i j:Nat):(Sort.swp d i j).size=d.size:=by simp [Sort.swp]
theorem rdK {d:Array Int} {n:Nat} (x:Nat) (e:n=x) (h:x<d.size) {K:AV→Prop} (k:K (I d[x]!)):nthK (d.toList.map I) n K:=by
 subst e;exact nthK_of (cd_get d n h) k
theorem wrK {d:Array Int} {n:Nat} {v:Int} (x:Nat) (e:n=x) (h:x<d.size) {K:List AV→Prop} (k:K ((d.setIfInBounds x v).toList.map I)):updK (d.toList.map I) n (I v) K:=by
 subst e;refine updK_of (by simpa using h) ?_;rw [cd_set];exact k
section
variable {H:List AObj} {id lo:Nat} (hlo:lo≤id)
include hlo
theorem insertion_sem (d:Array Int) (a b:Nat) (hd:d.size≤1000) (ha:a≤b) (hb:b≤d.size) (hH:H[id]?=some (Cd d)) :
  Sem Go.Proofs.Tryz.prog (.fn 110) [Da id d.size,I a,I b] H lo (.tuple []) (H.set id (Cd (Sort.insertionSort Sort.ltInt d a b))):=by
 have hid:=(List.getElem?_eq_some_iff.1 hH).1
 refine fn_sem hmix lk110 rfl ⟨by simp,fun j h1 h2=>by rw [List.getElem?_set_ne (by omega)]⟩ ?_
 unfold rc110
 conv=>whnf
 have hbl:Nat.ble lo id=true:=Nat.ble_eq_true_of_le hlo
 have gs:∀ c:AObj,(H.set id c)[id]?=some c:=fun c=>by rw [List.getElem?_set_self hid]
 have gss:∀ c e:AObj,((H.set id c).set id e)[id]?=some e:=fun c e=>by rw [List.set_set,gs]
 rw [wrapS a (by omega)]
 refine .intro (fun m T H'=>∃ i d',a+1≤i∧(i≤b∨i=a+1)∧m=b+1-i∧d'.size=d.size∧Sort.insOuter Sort.ltInt a b i d'=Sort.insertionSort Sort.ltInt d a b∧T=slots 49 [(0,Da id d.size),(1,I a),(2,I b),(6,I i)]∧H'=H.set id (Cd d')) (b-a) ⟨a+1,d,by omega,.inr rfl,by omega,rfl,rfl,rfl,?_⟩ ?_
 ·obtain ⟨h1,h2⟩:=List.getElem?_eq_some_iff.1 hH
  rw [←h2,List.set_getElem_self]
 rintro m T H' ⟨i,d',hi1,hi2,rfl,hds,he,rfl,rfl⟩
 conv=>whnf
 refine dcase (fun h=>?_) (fun h=>?_)
 ·conv=>whnf
  refine .intro (fun j T H'=>∃ dj:Array Int,j≤i∧dj.size=d.size∧Sort.insInner Sort.ltInt a j dj=Sort.insInner Sort.ltInt a i d'∧T=slots 49 [(0,Da id d.size),(1,I a),(2,I b),(6,I i),(7,I j)]∧H'=H.set id (Cd dj)) i ⟨d',Nat.le_refl _,hds,rfl,rfl,rfl⟩ ?_
  rintro j T H' ⟨dj,hj,hdj,hej,rfl,rfl⟩
  conv=>whnf
  by_cases h3:(a:Int)<(j:Int)
  ·rw [decide_eq_true h3]
   obtain ⟨q,rfl⟩:∃ q,j=q+1:=⟨j-1,by omega⟩
   have hw:IntKind.i64.wrap (((q+1:Nat):Int)-1)=(q:Int):=by rw [wrapI _ (by omega) (by omega)];omega
   conv=>whnf
   refine ⟨by omega,?_⟩
   conv=>whnf
   refine nthK_of (by first | exact gs _ | exact gss _ _ | assumption) ?_
   conv=>whnf
   refine rdK (q+1) (by omega) (by omega) ?_
   conv=>whnf
   rw [hw]
   refine ⟨by omega,?_⟩
   conv=>whnf
   refine nthK_of (by first | exact gs _ | exact gss _ _ | assumption) ?_
   conv=>whnf
   refine rdK (q) (by omega) (by omega) ?_
   conv=>whnf
   refine ⟨by first | rfl | simp only [List.all_cons,List.all_nil,pu0,pub,pu1,pu2,pu1',pu2',pun,puf,puP,puP',puQ,puQ',Bool.and_true,Bool.and_self],_,less_ok dj[q+1]! dj[q]!,acc0,?_⟩
   conv=>whnf
   by_cases h4:dj[q+1]!<dj[q]!
   ·rw [decide_eq_true h4]
    conv=>whnf
    rw [hw]
    refine ⟨by omega,?_⟩
    conv=>whnf
    refine nthK_of (by first | exact gs _ | exact gss _ _ | assumption) ?_
    conv=>whnf
    refine rdK (q) (by omega) (by omega) ?_
    conv=>whnf
    refine ⟨by omega,?_⟩
    conv=>whnf
    refine nthK_of (by first | exact gs _ | exact gss _ _ | assumption) ?_
    conv=>whnf
    refine rdK (q+1) (by omega) (by omega) ?_
    conv=>whnf
    refine ⟨by omega,?_⟩
    conv=>whnf
    rw [hbl]
    conv=>whnf
    refine nthK_of (by first | exact gs _ | exact gss _ _ | assumption) ?_
    conv=>whnf
    refine wrK (q+1) (by omega) (by first | omega | (simp only [Array.size_setIfInBounds];omega)) ?_
    conv=>whnf
    refine ⟨by omega,?_⟩
    conv=>whnf
    rw [hbl]
    conv=>whnf
    refine nthK_of (by first | exact gs _ | exact gss _ _ | assumption) ?_
    conv=>whnf
    refine wrK (q) (by omega) (by first | omega | (simp only [Array.size_setIfInBounds];omega)) ?_
    conv=>whnf
    refine ⟨q,by omega,Sort.swp dj (q+1) q,by omega,by rw [swp_size];exact hdj,?_,?_,?_⟩
    ·rw [←hej,Sort.insInner,if_pos (by simp only [Sort.ltInt,Bool.and_eq_true,decide_eq_true_eq];exact ⟨by omega,h4⟩)]
    ·rw [hw];rfl
    ·simp only [List.set_set];rfl
   ·rw [decide_eq_false h4]
    conv=>whnf
    have e:Sort.insInner Sort.ltInt a i d'=dj:=by
     rw [←hej,Sort.insInner,if_neg (by simp only [Sort.ltInt,Bool.and_eq_true,decide_eq_true_eq];exact fun hh=>h4 hh.2)]
    exact ⟨b+1-(i+1),by omega,i+1,dj,by omega,by omega,rfl,hdj,by rw [←he,Sort.insOuter.eq_1 _ a b i,if_pos (by omega),e],by rw [←wrapS i (by omega)];rfl,rfl⟩
  ·rw [decide_eq_false h3]
   conv=>whnf
   have e:Sort.insInner Sort.ltInt a i d'=dj:=by
    rw [←hej]
    cases j with
    | zero=>rfl
    | succ q=>rw [Sort.insInner,if_neg (by simp only [Bool.and_eq_true,decide_eq_true_eq];exact fun hh=>by omega)]
   exact ⟨b+1-(i+1),by omega,i+1,dj,by omega,by omega,rfl,hdj,by rw [←he,Sort.insOuter.eq_1 _ a b i,if_pos (by omega),e],by rw [←wrapS i (by omega)];rfl,rfl⟩
 ·conv=>whnf
  have e:Sort.insertionSort Sort.ltInt d a b=d':=by
   rw [←he];unfold Sort.insOuter;rw [if_neg (by omega)]
  rw [e]
  exact ⟨.inl rfl,⟨by simp,fun j o hj=>.inr hj⟩,rfl⟩
theorem pdq12_sem (d:Array Int) (limit:Int) (hd:d.size≤12) (hH:H[id]?=some (Cd d)) :
  Sem Go.Proofs.Tryz.prog (.fn 105) [Da id d.size,I 0,I d.size,I limit] H lo (.tuple []) (H.set id (Cd (Sort.insertionSort Sort.ltInt d 0 d.size))):=by
 refine fn_semQ hmix lk105 rfl ⟨by simp,fun j h1 h2=>by rw [List.getElem?_set_ne (by omega)]⟩ fun Q hQ=>?_
 unfold rc105
 obtain ⟨c19,g19⟩:∃ c,rc105_19=c:=⟨_,rfl⟩
 rw [g19]
 conv=>whnf
 refine .intro (fun m T H'=>T=slots 134 [(0,Da id d.size),(1,I 0),(2,I d.size),(3,I limit),(8,B true),(9,B true)]∧H'=H) 0 ⟨rfl,rfl⟩ ?_
 rintro m T H' ⟨rfl,rfl⟩
 subst g19
 unfold rc105_19
 obtain ⟨c1,g1⟩:∃ c,rc105_1=c:=⟨_,rfl⟩
 obtain ⟨c18,g18⟩:∃ c,rc105_18=c:=⟨_,rfl⟩
 rw [g1,g18]
 conv=>whnf
 rw [show IntKind.i64.wrap ((d.size:Int)-0)=(d.size:Int) by rw [wrapI _ (by omega) (by omega)];omega,decide_eq_true (show (d.size:Int)≤12 by omega)]
 conv=>whnf
 subst g1
 unfold rc105_1
 conv=>whnf
 refine ⟨_,_,call1 (insertion_sem hlo d 0 d.size (by omega) (Nat.zero_le _) (Nat.le_refl _) hH),?_⟩
 conv=>whnf
 exact hQ _ _ _ ⟨.inr rfl,⟨rfl,fun j o hj=>.inr hj⟩,rfl⟩
end
theorem wrapU (n:Int):IntKind.u64.wrap n=n % 18446744073709551616:=by simp [IntKind.wrap,IntKind.bits,IntKind.signed]
theorem lens_all:((List.range 13).all fun n=>match runC [] 106 [.int .u64 (n:Nat)] with | some v=>avEq 3 v (I (Sort.bitsLen n)) | none=>false)=true:=by kernel_rfl
theorem bitsLen_ok (n:Nat) (h:n≤12):PO 106 [.int .u64 n] (I (Sort.bitsLen n)):=by
 have:=List.all_eq_true.1 lens_all n (List.mem_range.2 (by omega))
 split at this
 ·rename_i v hv
  rw [avEq_ok _ _ _ this] at hv
  exact runC_ok (l:=[]) (by simp) hv
 ·cases this
theorem sort12_sem {H:List AObj} {id lo:Nat} (hlo:lo≤id) (d:Array Int) (hd:d.size≤12) (hH:H[id]?=some (Cd d)) :
  Sem Go.Proofs.Tryz.prog (.fn 84) [Da id d.size] H lo (.tuple []) (H.set id (Cd (Sort.insertionSort Sort.ltInt d 0 d.size))):=by
 refine fn_semQ hmix lk84 rfl ⟨by simp,fun j h1 h2=>by rw [List.getElem?_set_ne (by omega)]⟩ fun Q hQ=>?_
 unfold rc84
 conv=>whnf
 rw [show IntKind.u64.wrap (d.size:Int)=(d.size:Int) by rw [wrapU];omega]
 refine ⟨by first | rfl | simp only [List.all_cons,List.all_nil,pu0,pub,pu1,pu2,pu1',pu2',pun,puf,puP,puP',puQ,puQ',Bool.and_true,Bool.and_self],_,bitsLen_ok d.size hd,?_⟩
 conv=>whnf
 refine ⟨_,_,call1 (pdq12_sem hlo d (Sort.bitsLen d.size) hd hH),?_⟩
 conv=>whnf
 exact hQ _ _ _ ⟨.inl rfl,⟨rfl,fun j o hj=>.inr hj⟩,rfl⟩
end Go.Proofs.YtbnbjjgagikobaaGreat.Ab


namespace Go.Proofs.YtbnbjjgagikobaaGreat.Ab
open Go
theorem rise_eq:∀ {a b:List Int},a.Pairwise (·<·)→b.Pairwise (·<·)→(∀ x,x∈a↔x∈b)→a=b
 | [],[],_,_,_=>rfl
 | [],y::b,_,_,h=>by have:=(h y).2 (by simp);simp at this
 | x::a,[],_,_,h=>by have:=(h x).1 (by simp);simp at this
 | x::a,y::b,ha,hb,h=>by
   obtain ⟨a1,a2⟩:=List.pairwise_cons.1 ha
   obtain ⟨b1,b2⟩:=List.pairwise_cons.1 hb
   have hxy:x=y:=by
    rcases List.mem_cons.1 ((h x).1 (by simp)) with e | e
    ·exact e
    ·rcases List.mem_cons.1 ((h y).2 (by simp)) with e2 | e2
     ·exact e2.symm
     ·have:=a1 y e2;have:=b1 x e;omega
   subst hxy
   rw [rise_eq a2 b2 fun z=>?_]
   constructor
   ·intro hz
    rcases List.mem_cons.1 ((h z).1 (by simp [hz])) with e | e
    ·have:=a1 z hz;omega
    ·exact e
   ·intro hz
    rcases List.mem_cons.1 ((h z).2 (by simp [hz])) with e | e
    ·have:=b1 z hz;omega
    ·exact e
theorem ins_sorted (S L:List Int) (hp:S.Perm L) (hL:L.Pairwise (·<·)):(Sort.insertionSort Sort.ltInt S.toArray 0 S.toArray.size).toList=L:=by
 obtain ⟨⟨h1,_,h3⟩,h4⟩:=Sort.insertionSort_holds (lt:=Sort.ltInt) Sort.swo_ltInt S.toArray 0 S.toArray.size (Nat.zero_le _) (Nat.le_refl _)
 generalize Sort.insertionSort Sort.ltInt S.toArray 0 S.toArray.size=d at h1 h3 h4
 have e1:(d.extract 0 S.toArray.size).toList=d.toList:=by rw [←h1];simp
 have e2:(S.toArray.extract 0 S.toArray.size).toList=S:=by simp
 rw [e1,e2] at h3
 have hpm:=h3.trans hp
 have hn:d.toList.Nodup:=hpm.nodup_iff.2 (hL.imp fun h e=>by omega)
 refine rise_eq ?_ hL fun x=>hpm.mem_iff
 rw [List.pairwise_iff_getElem]
 intro i j hi hj hij
 have hi':i<d.size:=by simpa using hi
 have hj':j<d.size:=by simpa using hj
 have:=h4 i j (Nat.zero_le _) hij (by omega)
 rw [getElem!_pos d i hi',getElem!_pos d j hj'] at this
 simp only [Sort.ltInt,decide_eq_false_iff_not] at this
 have hne:d.toList[i]≠d.toList[j]:=List.pairwise_iff_getElem.1 hn i j hi hj hij
 simp only [Array.getElem_toList] at hne ⊢
 omega
def pr (p:Int×Int):List AV:=[I p.1,I p.2]
def PLw (l:List (Int×Int)) (c:Cap):AV:=.lst (l.flatMap pr) l.length c
def PL (l:List (Int×Int)):AV:=PLw l .shared
def Bd (o:Int) (br:List Int) (h c:Int):AV:=.agg [I o,L1 br,I h,I c]
theorem pure_prs (d:Nat) (l:List (Int×Int)):(l.flatMap pr).all (pureD (d+1))=true:=by
 rw [List.all_eq_true]
 intro u hu
 obtain ⟨p,_,hp⟩:=List.mem_flatMap.1 hu
 simp only [pr,List.mem_cons,List.not_mem_nil,or_false] at hp
 rcases hp with rfl | rfl <;> rfl
theorem prs_drop:∀ (l:List (Int×Int)) (i:Nat) (h:i<l.length),(l.flatMap pr).drop (i*2)=I l[i].1::I l[i].2::(l.drop (i+1)).flatMap pr
 | [],i,h=>absurd h (by simp)
 | x::l,0,h=>rfl
 | x::l,i+1,h=>by
   have ih:=prs_drop l i (by simpa using h)
   rw [show (i+1)*2=(i*2).succ.succ by omega]
   simpa [List.flatMap_cons,pr] using ih
def wantL (ps:List (Int×Int)):List Int:=(List.range 21).map fun (t:Nat)=>((ps.filter fun p=>decide (p.1=(t:Int))).length:Int)
theorem wantL_len (ps:List (Int×Int)):(wantL ps).length=21:=by simp [wantL]
theorem wantL_get (ps:List (Int×Int)) (t:Nat) (h:t<(wantL ps).length):(wantL ps)[t]=((ps.filter fun p=>decide (p.1=(t:Int))).length:Int):=by simp [wantL]
theorem wantL_snoc (ps:List (Int×Int)) (p:Int×Int) (h:0≤p.1∧p.1≤20):(wantL ps).set p.1.toNat ((wantL ps)[p.1.toNat]'(by rw [wantL_len];omega)+1)=wantL (ps++[p]):=by
 apply List.ext_getElem
 ·simp [wantL_len]
 ·intro t h1 h2
  rw [wantL_len] at h2
  rw [List.getElem_set]
  simp only [wantL_get,List.filter_append,List.length_append]
  by_cases e:p.1.toNat=t
  ·subst e
   rw [if_pos rfl,List.filter_cons_of_pos (by simp;omega)]
   simp
  ·rw [if_neg e,List.filter_cons_of_neg (by simp;omega)]
   simp
theorem wantL_nil:wantL []=List.replicate 21 0:=rfl
theorem wantL_bound (ps:List (Int×Int)) (t:Nat) (h:t<(wantL ps).length):0≤(wantL ps)[t]∧(wantL ps)[t]≤ps.length:=by
 rw [wantL_get]
 have:=List.length_filter_le (fun p:Int×Int=>decide (p.1=(t:Int))) ps
 omega
def entO (L:List Nat):List (Nat×AV×AV):=L.map fun i=>(i,.agg [I i],I i)
theorem eqKey_o (a b:Nat):eqKey (.agg [I a]) (.agg [I b])=some (decide (a=b)):=by
 simp only [eqKey,eqInts,if_true,Option.map_some,Bool.and_true,Option.some.injEq]
 rw [Bool.eq_iff_iff]
 simp only [beq_iff_eq,decide_eq_true_eq]
 omega
theorem findO_none (b:Nat):∀ (L:List Nat) (n:Nat),b ∉ L→findK (.agg [I b]) (entO L) n=some none
 | [],n,_=>rfl
 | a::L,n,h=>by
   simp only [List.mem_cons,not_or] at h
   simp only [entO,List.map_cons,findK,eqKey_o]
   rw [decide_eq_false h.1]
   exact findO_none b L (n+1) h.2
theorem findO_some (b:Nat):∀ (L:List Nat) (n:Nat),b∈L→L.Nodup→∃ i,findK (.agg [I b]) (entO L) n=some (some (n+i))∧(entO L).eraseIdx i=entO (L.filter fun x=>decide (x≠b))
 | [],n,h,_=>absurd h (by simp)
 | a::L,n,h,hn=>by
   obtain ⟨hn1,hn2⟩:=List.nodup_cons.1 hn
   by_cases e:b=a
   ·subst e
    refine ⟨0,?_,?_⟩
    ·simp only [entO,List.map_cons,findK,eqKey_o,decide_true];rfl
    ·rw [List.filter_cons_of_neg (by simp)]
     rw [List.filter_eq_self.2 (fun x hx=>by simp;intro e;subst e;exact hn1 hx)];rfl
   ·have hb:b∈L:=by simpa [e] using h
    obtain ⟨i,h1,h2⟩:=findO_some b L (n+1) hb hn2
    refine ⟨i+1,?_,?_⟩
    ·simp only [entO,List.map_cons,findK,eqKey_o]
     rw [decide_eq_false e]
     simp only [entO] at h1
     rw [h1]
     rw [show n+1+i=n+(i+1) by omega]
    ·rw [List.filter_cons_of_pos (by simp;intro e';exact e e'.symm)]
     simp only [entO,List.map_cons,List.eraseIdx_cons_succ] at h2 ⊢
     rw [h2]
theorem entO_mem {L:List Nat} {e:Nat×AV×AV} (h:e∈entO L):e.1∈L∧e=(e.1,.agg [I e.1],I e.1):=by
 obtain ⟨i,hi,rfl⟩:=List.mem_map.1 h
 exact ⟨hi,rfl⟩
theorem entO_find (b:Nat):∀ (L:List Nat),b∈L→(entO L).find? (fun e=>e.1 == b)=some (b,.agg [I b],I b)
 | [],h=>absurd h (by simp)
 | a::L,h=>by
   simp only [entO,List.map_cons,List.find?_cons]
   by_cases e:a=b
   ·subst e;simp
   ·simp only [e,beq_eq_false_iff_ne.2 e]
    exact entO_find b L (by simpa [Ne.symm e] using h)
def wholeN (o:Nat) (br:List Int):List Nat:=(List.range o).filter fun (i:Nat)=>decide ((i:Int) ∉ br)
def wholeL (o:Nat) (br:List Int):List Int:=(wholeN o br).map fun (i:Nat)=>(i:Int)
theorem wholeN_nodup (o:Nat) (br:List Int):(wholeN o br).Nodup:=List.Nodup.sublist List.filter_sublist List.nodup_range
theorem wholeL_rise (o:Nat) (br:List Int):(wholeL o br).Pairwise (·<·):=by
 unfold wholeL
 rw [List.pairwise_map]
 exact ((List.pairwise_lt_range (n:=o)).sublist List.filter_sublist).imp fun h=>by omega
theorem wholeN_snoc (o:Nat) (br:List Int) (b:Nat):(wholeN o br).filter (fun x=>decide (x≠b))=wholeN o (br++[(b:Int)]):=by
 unfold wholeN
 rw [List.filter_filter]
 apply List.filter_congr
 intro x _
 rw [Bool.eq_iff_iff]
 simp only [Bool.and_eq_true,decide_eq_true_eq,List.mem_append,List.mem_singleton,not_or]
 exact ⟨fun h=>⟨h.2,by omega⟩,fun h=>⟨by omega,h.1⟩⟩
theorem wholeN_nil (o:Nat):wholeN o []=List.range o:=by
 unfold wholeN;exact List.filter_eq_self.2 (by simp)
theorem wholeN_le (o:Nat) (br:List Int):(wholeN o br).length≤o:=by
 unfold wholeN;have:=List.length_filter_le (fun (i:Nat)=>decide ((i:Int) ∉ br)) (List.range o);simpa using this
end Go.Proofs.YtbnbjjgagikobaaGreat.Ab


namespace Go.Proofs.YtbnbjjgagikobaaGreat.Ab
open Go
set_option maxRecDepth 20000
set_option maxHeartbeats 4000000
abbrev nilV:AV:=.lst [] 0 .full
def bc (o:Int) (br:List Int) (h c:Int) (ps:List (Int×Int)) (w:AV) (wa:List Int):List AV:=I o::L1 br::I h::I c::PL ps::w::wa.map I
def bnV (o:Nat) (br:List Int) (h c:Int) (ps:List (Int×Int)):AV:=.lptr (bc o br h c ps (L1 (wholeL o br)) (wantL ps))
theorem bc_pure (o:Int) (br:List Int) (h c:Int) (ps:List (Int×Int)) (l:List Int) (wa:List Int):(bc o br h c ps (L1 l) wa).all (pureD 7)=true:=by
 have h1:pureD 7 (L1 br)=true:=pure_ints 5 br
 have h2:pureD 7 (L1 l)=true:=pure_ints 5 l
 have h3:pureD 7 (PL ps)=true:=pure_prs 5 ps
 have h4:(wa.map I).all (pureD 7)=true:=pure_ints 6 wa
 simp only [bc,List.all_cons,h1,h2,h3,h4];rfl
theorem bnV_pure (o:Nat) (br:List Int) (h c:Int) (ps:List (Int×Int)):pureD 8 (bnV o br h c ps)=true:=bc_pure _ _ _ _ _ _ _
section
variable {o:Nat} {br:List Int} {h c:Int} {ps:List (Int×Int)}
theorem frz_refN {H:List AObj} {id n d:Nat} {l:List AV} (h:H[id]?=some (.cells l)) (hl:l.length=n) (hp:(l.map AV.view).all (pureD d)=true):frz H 0 H.length 0 (d+1) (.ref id 0 n none 1)=some (.lst (l.map AV.view) n .shared):=by
 have h1:=(List.getElem?_eq_some_iff.1 h).1
 have h2:mapO (frz H 0 H.length 0 d) (l.map AV.view)=some (l.map AV.view):=mapO_id fun u hu=>frz_pure (by rw [List.all_eq_true] at hp;exact hp u hu)
 have hrow:rowOf H (.ref id 0 n none 1)=some (l.map AV.view):=by
  simp only [rowOf,h,Nat.zero_add,Nat.mul_one,hl,Nat.le_refl,if_true,List.drop_zero]
  rw [List.take_of_length_le (by omega)]
 simp only [frz,Nat.not_lt_zero,if_false,hrow,h2,Option.map_some]
 rw [if_neg (by omega)];rfl
theorem frz_ptrM {H:List AObj} {id d:Nat} {l r:List AV} (h:H[id]?=some (.cells l)) (hm:mapO (frz H 0 H.length 0 d) (l.map AV.view)=some r):frz H 0 H.length 0 (d+1) (.ptr id 0)=some (.lptr r):=by
 have h1:=(List.getElem?_eq_some_iff.1 h).1
 simp only [frz,Nat.not_lt_zero,if_false,h,List.drop_zero,hm,Option.map_some]
 rw [if_neg (by omega)]
theorem mapO_bc {f:AV→Option AV} (hf:∀ u,pureD 7 u=true→f u=some u) (o:Int) (br:List Int) (h c:Int) (ps:List (Int×Int)) {w w':AV} (hw:f w=some w') (wa:List Int):mapO f (bc o br h c ps w wa)=some (bc o br h c ps w' wa):=by
 have h1:f (L1 br)=some (L1 br):=hf _ (pure_ints 5 br)
 have h3:f (PL ps)=some (PL ps):=hf _ (pure_prs 5 ps)
 have h4:mapO f (wa.map I)=some (wa.map I):=mapO_id fun u hu=>by
  obtain ⟨x,_,rfl⟩:=List.mem_map.1 hu
  exact hf _ rfl
 simp only [bc,mapO,hf (I _) rfl,h1,h3,hw,h4,Option.map_some]
def intsN (S:List Nat):List Int:=S.map fun (i:Nat)=>(i:Int)
theorem bench_tail (S:List Nat) (hS:S.Perm (wholeN o br)) (h0:S≠[]) (ho:o≤10) (X:List AObj) (x2 x3:AV) (hX:X[1]?=some (.cells (bc o br h c ps (.raw ((intsN S).map I) S.length 1) (wantL ps))))
  (Q:Ex→List AV→List AObj→Prop) (hQ:∀ e T1 H1,Ret [.tmp 4] (bnV o br h c ps) e T1 H1→Q e T1 H1) :
  wpR Go.Proofs.Tryz.prog ann59 59 0 none rc59_9 (slots 90 [(5,.ptr 1 0),(69,x2),(71,x3)]) X Q:=by
 have hlt:=(List.getElem?_eq_some_iff.1 hX).1
 have hSl:S.length≤12:=by have:=hS.length_eq;have:=wholeN_le o br;omega
 unfold rc59_9
 conv=>whnf
 refine nthK_of hX ?_
 conv=>whnf
 refine ⟨fun e=>h0 (List.length_eq_zero_iff.1 e),?_⟩
 conv=>whnf
 obtain ⟨bcl,hbcl⟩:∃ l,l=AObj.cells (bc o br h c ps (.ref X.length 0 S.length none 1) (wantL ps)):=⟨_,rfl⟩
 have hs:=sort12_sem (H:=X.set 1 bcl++[.cells ((intsN S).map I)]) (id:=X.length) (Nat.zero_le 0 |> fun _=>Nat.zero_le X.length) (intsN S).toArray (by simpa [intsN] using hSl) (by rw [List.getElem?_append_right (by simp)];simp [Cd])
 have hsort:=ins_sorted (intsN S) (wholeL o br) (by unfold intsN wholeL;exact hS.map _) (wholeL_rise o br)
 have hsz:(intsN S).toArray.size=S.length:=by simp [intsN]
 rw [show Cd (Sort.insertionSort Sort.ltInt (intsN S).toArray 0 (intsN S).toArray.size)=.cells ((wholeL o br).map I) by rw [Cd,hsort],hsz] at hs
 rw [show AObj.cells ((bc o br h c ps (.raw ((intsN S).map I) S.length 1) (wantL ps)).set (0+5) (.ref X.length 0 S.length none 1))=bcl by rw [hbcl];rfl]
 refine ⟨_,_,call1 hs,?_⟩
 rw [show (X.set 1 bcl++[AObj.cells ((intsN S).map I)]).set X.length (.cells ((wholeL o br).map I))=X.set 1 bcl++[.cells ((wholeL o br).map I)] by rw [List.set_append_right _ _ (by simp)];simp]
 conv=>whnf
 have hwl:(wholeL o br).length=S.length:=by rw [hS.length_eq];simp [wholeL]
 have g1:(X.set 1 bcl++[AObj.cells ((wholeL o br).map I)])[1]?=some bcl:=by rw [List.getElem?_append_left (by simpa using hlt),List.getElem?_set_self hlt]
 have g2:(X.set 1 bcl++[AObj.cells ((wholeL o br).map I)])[X.length]?=some (.cells ((wholeL o br).map I)):=by rw [List.getElem?_append_right (by simp)];simp
 have hN:(X.set 1 bcl++[AObj.cells ((wholeL o br).map I)]).length=X.length+1:=by simp
 generalize X.set 1 bcl++[AObj.cells ((wholeL o br).map I)]=Y at g1 g2 hN
 refine hQ _ _ _ ⟨.inr rfl,[.ptr 1 0],rfl,bnV o br h c ps,?_,.inl rfl⟩
 show frz Y 0 Y.length 0 8 (.ptr 1 0)=_
 rw [hbcl] at g1
 have hr:frz Y 0 Y.length 0 7 (.ref X.length 0 S.length none 1)=some (L1 (wholeL o br)):=by
  have hvw:((wholeL o br).map I).map AV.view=(wholeL o br).map I:=by rw [List.map_map];rfl
  have:=frz_refN (d:=6) g2 (n:=S.length) (by simp [hwl]) (by rw [hvw];exact pure_ints 5 _)
  rw [this,hvw,L1,hwl]
 have hv:(bc o br h c ps (.ref X.length 0 S.length none 1) (wantL ps)).map AV.view=bc o br h c ps (.ref X.length 0 S.length none 1) (wantL ps):=by
  simp only [bc,List.map_cons,List.map_map];rfl
 have hmm:=mapO_bc (f:=frz Y 0 Y.length 0 7) (fun u hu=>frz_pure hu) o br h c ps hr (wantL ps)
 exact frz_ptrM (d:=7) g1 (by rw [hv];exact hmm)
omit o br h c ps in
theorem perm_of {a b:List Nat} (ha:a.Nodup) (hb:b.Nodup) (h1:∀ x∈a,x∈b) (h2:∀ x∈b,x∈a):a.Perm b :=
 List.perm_iff_count.2 fun x=>by
  have hc:∀ l:List Nat,l.Nodup→l.count x=if x∈l then 1 else 0:=fun l hl=>by
   by_cases hx:x∈l
   ·rw [if_pos hx]
    have:=List.nodup_iff_count.1 hl x
    have:=List.count_pos_iff.2 hx
    omega
   ·rw [if_neg hx,List.count_eq_zero.2 hx]
  rw [hc a ha,hc b hb]
  by_cases hx:x∈a
  ·rw [if_pos hx,if_pos (h1 x hx)]
  ·rw [if_neg hx,if_neg fun h=>hx (h2 x h)]
omit o br h c ps in
theorem sub_len:∀ (a b:List Int),a.Nodup→(∀ x∈a,x∈b)→a.length≤b.length
 | [],b,_,_=>Nat.zero_le _
 | x::a,b,hn,hs=>by
   obtain ⟨n1,n2⟩:=List.nodup_cons.1 hn
   have hx:=hs x (by simp)
   have:=sub_len a (b.erase x) n2 fun y hy=>by
    have hne:y≠x:=fun e=>n1 (e ▸ hy)
    exact (List.mem_erase_of_ne hne).2 (hs y (by simp [hy]))
   rw [List.length_erase_of_mem hx] at this
   have:=List.length_pos_of_mem hx
   simp only [List.length_cons];omega
omit o br h c ps in
theorem whole_some {o:Nat} {br:List Int} (hn:br.Nodup) (hbr:∀ x∈br,0≤x∧x<(o:Int)) (hl:br.length<o):wholeN o br≠[]:=by
 intro e
 have h1:∀ i<o,(i:Int)∈br:=fun i hi=>by
  refine Classical.byContradiction fun hc=>?_
  have:i∈wholeN o br:=by unfold wholeN;rw [List.mem_filter];exact ⟨by simpa using hi,by simpa using hc⟩
  rw [e] at this;simp at this
 have h2:((List.range o).map fun (i:Nat)=>(i:Int)).length≤br.length:=by
  refine sub_len _ _ ?_ fun x hx=>?_
  ·rw [List.nodup_iff_pairwise_ne,List.pairwise_map]
   exact (List.pairwise_lt_range (n:=o)).imp fun h=>by omega
  ·obtain ⟨i,hi,rfl⟩:=List.mem_map.1 hx
   exact h1 i (by simpa using hi)
 simp at h2
 omega
theorem ent_snoc (k:Nat):entO (List.range k)++[(k,.agg [I k],I k)]=entO (List.range (k+1)):=by
 rw [List.range_succ];simp [entO]
theorem bench_mid (ho1:wholeN o br≠[]) (ho:o≤10) (hbr:∀ x∈br,0≤x∧x<o) (hn:br.Nodup) (hl:br.length<o) (X:List AObj) (x2 x3 x4 x5:AV) (hX:X[1]?=some (.cells (bc o br h c ps nilV (wantL ps))))
  (Q:Ex→List AV→List AObj→Prop) (hQ:∀ e T1 H1,Ret [.tmp 4] (bnV o br h c ps) e T1 H1→Q e T1 H1) :
  wpR Go.Proofs.Tryz.prog ann59 59 0 none rc59_11 (slots 90 [(5,.ptr 1 0),(8,.map X.length),(22,x2),(23,x3),(24,x4),(25,x5)]) (X++[.map [] 0]) Q:=by
 have hlt:=(List.getElem?_eq_some_iff.1 hX).1
 unfold rc59_11
 obtain ⟨c4,g4⟩:∃ c,rc59_4=c:=⟨_,rfl⟩
 obtain ⟨c10,g10⟩:∃ c,rc59_10=c:=⟨_,rfl⟩
 rw [g4,g10]
 conv=>whnf
 refine nthK_of (ga hX) ?_
 conv=>whnf
 refine .intro (fun m T H=>∃ i:Nat,i≤o∧m=o-i∧T=slots 90 [(5,.ptr 1 0),(8,.map X.length),(45,I o),(46,I i)]∧H=X++[.map (entO (List.range i)) i]) o ⟨0,Nat.zero_le _,rfl,rfl,rfl⟩ ?_
 rintro m T H ⟨i,hi,rfl,rfl,rfl⟩
 conv=>whnf
 refine dcase (fun hc=>?_) (fun hc=>?_)
 ·conv=>whnf
  subst g4
  unfold rc59_4 rc59_3
  conv=>whnf
  refine ⟨rfl,_,_,get_concat X _,none,findO_none i _ 0 (by simp),?_⟩
  conv=>whnf
  exact ⟨o-(i+1),by omega,i+1,by omega,rfl,by rw [←wrapS i (by omega)];rfl,by rw [set_concat];exact congrArg (fun z=>X++[AObj.map z (i+1)]) (ent_snoc i)⟩
 obtain rfl:i=o:=by omega
 conv=>whnf
 subst g10
 unfold rc59_10
 obtain ⟨c6,g6⟩:∃ c,rc59_6=c:=⟨_,rfl⟩
 obtain ⟨c8,g8⟩:∃ c,rc59_8=c:=⟨_,rfl⟩
 obtain ⟨c9,g9⟩:∃ c,rc59_9=c:=⟨_,rfl⟩
 rw [g6,g8,g9]
 conv=>whnf
 refine nthK_of (ga hX) ?_
 conv=>whnf
 refine .intro (fun m T H=>∃ k:Nat,k≤br.length∧m=br.length-k∧T=slots 90 [(5,.ptr 1 0),(8,.map X.length),(58,L1 br),(59,I br.length),(60,I k)]∧H=X++[.map (entO (wholeN i (br.take k))) i]) br.length ⟨0,Nat.zero_le _,rfl,rfl,by rw [List.take_zero,wholeN_nil]⟩ ?_
 rintro m T H ⟨k,hk,rfl,rfl,rfl⟩
 conv=>whnf
 refine dcase (fun hc=>?_) (fun hc=>?_)
 ·have hkl:k<br.length:=by omega
  obtain ⟨b1,b2⟩:=hbr _ (List.getElem_mem hkl)
  obtain ⟨b,hb⟩:∃ b:Nat,br[k]=(b:Int):=⟨br[k].toNat,by omega⟩
  have etk:br.take (k+1)=br.take k++[(b:Int)]:=by rw [List.take_succ_eq_append_getElem hkl,hb]
  have hnb:(b:Int) ∉ br.take k:=by
   have h3:=hn
   rw [←List.take_append_drop (k+1) br,etk,List.append_assoc] at h3
   have:=(List.nodup_append.1 h3).2.2
   exact fun hm=>this _ hm _ (by simp) rfl
  obtain ⟨j,f1,f2⟩:=findO_some b (wholeN i (br.take k)) 0 (by unfold wholeN;rw [List.mem_filter];exact ⟨by simp;omega,by simpa using hnb⟩) (wholeN_nodup _ _)
  conv=>whnf
  subst g6
  unfold rc59_6 rc59_5
  conv=>whnf
  refine ⟨by omega,?_⟩
  conv=>whnf
  refine nthM _ _ _ (hkl) ?_
  conv=>whnf
  rw [hb]
  conv=>whnf
  rw [Nat.zero_add] at f1
  refine ⟨rfl,_,_,get_concat X _,some j,f1,?_⟩
  conv=>whnf
  exact ⟨br.length-(k+1),by omega,k+1,by omega,rfl,by rw [←wrapS k (by omega)];rfl,by rw [set_concat,f2,wholeN_snoc,etk]⟩
 obtain rfl:k=br.length:=by omega
 rw [List.take_length]
 conv=>whnf
 refine ⟨_,_,get_concat X _,?_⟩
 conv=>whnf
 have hne:X.length≠1:=by omega
 refine .intro (fun m T H=>∃ S:List Nat,m+S.length=(wholeN i br).length∧S.Nodup∧(∀ x∈S,x∈wholeN i br)∧T=slots 90 [(5,.ptr 1 0),(69,.ptr (X.length+1) 0)] ∧
  H=X.set 1 (.cells (bc i br h c ps (if S=[] then nilV else .raw ((intsN S).map I) S.length 1) (wantL ps)))++[.map (entO (wholeN i br)) i,.iter X.length i S i]) (wholeN i br).length ⟨[],rfl,List.nodup_nil,by simp,by rw [List.length_append];rfl,?_⟩ ?_
 ·rw [if_pos rfl,show X.set 1 (.cells (bc i br h c ps nilV (wantL ps)))=X by obtain ⟨h1,h2⟩:=List.getElem?_eq_some_iff.1 hX;rw [←h2,List.set_getElem_self],List.append_assoc];rfl
 rintro m T H ⟨S,hm,hSn,hSm,rfl,rfl⟩
 obtain ⟨XS,hXS⟩:∃ XS,XS=X.set 1 (.cells (bc i br h c ps (if S=[] then nilV else .raw ((intsN S).map I) S.length 1) (wantL ps))):=⟨_,rfl⟩
 have hXl:XS.length=X.length:=by rw [hXS];simp
 have hX1:XS[1]?=some (.cells (bc i br h c ps (if S=[] then nilV else .raw ((intsN S).map I) S.length 1) (wantL ps))):=by rw [hXS,List.getElem?_set_self hlt]
 have hXx:∀ x:AObj,XS.set 1 x=X.set 1 x:=fun x=>by rw [hXS,List.set_set]
 rw [←hXS]
 have m0:(XS++[AObj.map (entO (wholeN i br)) i,AObj.iter X.length i S i])[X.length]?=some (.map (entO (wholeN i br)) i):=by rw [List.getElem?_append_right (by omega),hXl];simp
 have m1:(XS++[AObj.map (entO (wholeN i br)) i,AObj.iter X.length i S i])[X.length+1]?=some (.iter X.length i S i):=by rw [List.getElem?_append_right (by omega),hXl];simp
 subst g8
 unfold rc59_8
 obtain ⟨c7,g7⟩:∃ c,rc59_7=c:=⟨_,rfl⟩
 rw [g7]
 conv=>whnf
 refine ⟨X.length,i,S,i,entO (wholeN i br),m1,m0,Nat.le_refl _,?_,?_,?_⟩
 ·intro e he
  have:=(entO_mem he).1
  unfold wholeN at this
  simpa using (List.mem_filter.1 this).1
 ·intro hall
  conv=>whnf
  subst g9
  have hSa:∀ x∈wholeN i br,x∈S:=fun x hx=>hall (x,.agg [I x],I x) (List.mem_map.2 ⟨x,hx,rfl⟩)
  have hSp:S.Perm (wholeN i br):=perm_of hSn (wholeN_nodup _ _) hSm hSa
  have hS0:S≠[]:=fun e=>ho1 (List.eq_nil_iff_forall_not_mem.2 fun x hx=>by have:=hSa x hx;rw [e] at this;simp at this)
  rw [if_neg hS0] at hX1
  exact bench_tail S hSp hS0 ho _ _ _ (ga hX1) Q hQ
 ·intro e he hns
  obtain ⟨he1,he2⟩:=entO_mem he
  rw [he2]
  obtain ⟨b,hb⟩:∃ b,b=e.1:=⟨_,rfl⟩
  rw [←hb] at he1 hns ⊢
  rw [show (XS++[AObj.map (entO (wholeN i br)) i,AObj.iter X.length i S i]).set (X.length+1) (AObj.iter X.length i (S++[b]) i)=XS++[AObj.map (entO (wholeN i br)) i,AObj.iter X.length i (S++[b]) i] by rw [←hXl,List.set_append_right _ _ (by omega)];simp]
  have m2:(XS++[AObj.map (entO (wholeN i br)) i,AObj.iter X.length i (S++[b]) i])[X.length]?=some (.map (entO (wholeN i br)) i):=by rw [List.getElem?_append_right (by omega),hXl];simp
  have m3:(XS++[AObj.map (entO (wholeN i br)) i,AObj.iter X.length i (S++[b]) i])[X.length+1]?=some (.iter X.length i (S++[b]) i):=by rw [List.getElem?_append_right (by omega),hXl];simp
  have hset:∀ x:AObj,(XS++[AObj.map (entO (wholeN i br)) i,AObj.iter X.length i (S++[b]) i]).set 1 x=X.set 1 x++[AObj.map (entO (wholeN i br)) i,AObj.iter X.length i (S++[b]) i]:=fun x=>by
   rw [List.set_append_left _ _ (by omega),hXx]
  have g1:=ga (Z:=[AObj.map (entO (wholeN i br)) i,AObj.iter X.length i (S++[b]) i]) hX1
  have hSb:(S++[b]).Nodup:=List.nodup_append.2 ⟨hSn,by simp,fun x hx y hy e=>by simp at hy;subst hy;subst e;exact hns hx⟩
  have hlen:S.length+1≤(wholeN i br).length:=by
   have:=sub_len (intsN (S++[b])) (intsN (wholeN i br)) (by unfold intsN;rw [List.nodup_iff_pairwise_ne,List.pairwise_map];exact (List.nodup_iff_pairwise_ne.1 hSb).imp fun h=>by omega) fun x hx=>by
    obtain ⟨y,hy,rfl⟩:=List.mem_map.1 hx
    refine List.mem_map.2 ⟨y,?_,rfl⟩
    rcases List.mem_append.1 hy with h | h
    ·exact hSm y h
    ·simp at h;subst h;exact he1
   simpa [intsN] using this
  have hwl:=wholeN_le i br
  have hnn:S++[b]≠[]:=by simp
  refine ⟨X.length,i,S++[b],i,b,entO (wholeN i br),(b,.agg [I b],I b),m3,by simp,m2,entO_find b _ he1,?_⟩
  conv=>whnf
  subst g7
  unfold rc59_7
  by_cases hS0:S=[]
  ·subst hS0
   rw [if_pos rfl] at hX1 g1
   conv=>whnf
   refine nthK_of g1 ?_
   conv=>whnf
   refine ⟨rfl,by decide,by decide,by omega,rfl,?_⟩
   conv=>whnf
   refine nthK_of g1 ?_
   conv=>whnf
   refine ⟨rfl,by decide,?_⟩
   conv=>whnf
   simp only [List.length_nil] at hlen hm
   refine ⟨m-1,by omega,[b],by simp only [List.length_singleton];omega,hSb,fun x hx=>by simp at hx;subst hx;exact he1,rfl,?_⟩
   rw [hset,if_neg (by simp)];rfl
  ·rw [if_neg hS0] at hX1 g1
   conv=>whnf
   refine nthK_of g1 ?_
   conv=>whnf
   refine ⟨rfl,by decide,rfl,by omega,?_⟩
   rw [hset]
   conv=>whnf
   refine nthK_of (ga (List.getElem?_set_self hlt)) ?_
   conv=>whnf
   refine ⟨by simp only [List.all_append,List.all_map];rw [Bool.and_eq_true];exact ⟨List.all_eq_true.2 fun _ _=>rfl,rfl⟩,by omega,?_⟩
   conv=>whnf
   refine ⟨m-1,by omega,S++[b],by simp only [List.length_append,List.length_singleton];omega,hSb,fun x hx=>by
    rcases List.mem_append.1 hx with h | h
    ·exact hSm x h
    ·simp at h;subst h;exact he1,rfl,?_⟩
   rw [List.set_append_left _ _ (by simp;omega),List.set_set,if_neg (by simp)]
   have e:intsN (S++[b])=intsN S++[(b:Int)]:=by simp [intsN]
   rw [e,List.map_append,List.length_append];rfl
theorem bench_ok (ho1:1≤o) (ho:o≤10) (hbr:∀ x∈br,0≤x∧x<o) (hn:br.Nodup) (hl:br.length<o) (hps:∀ p∈ps,0≤p.1∧p.1≤20) (hpl:ps.length≤1000) :
  PO 59 [Bd o br h c,PL ps] (bnV o br h c ps):=by
 refine fn_pureQ hmix lk59 rfl (bnV_pure _ _ _ _ _) fun Q hQ=>?_
 unfold rc59
 obtain ⟨c14,g14⟩:∃ c,rc59_14=c:=⟨_,rfl⟩
 rw [g14]
 conv=>whnf
 subst g14
 unfold rc59_14
 obtain ⟨c13,g13⟩:∃ c,rc59_13=c:=⟨_,rfl⟩
 rw [g13]
 conv=>whnf
 subst g13
 unfold rc59_13
 obtain ⟨c12,g12⟩:∃ c,rc59_12=c:=⟨_,rfl⟩
 rw [g12]
 conv=>whnf
 refine ⟨.ref 1 6 21 (some 21) 1,[.cells [I o,L1 br,I h,I c],.cells (bc o br h c ps nilV (List.replicate 21 0))],fun C=>by kernel_rfl,?_⟩
 conv=>whnf
 refine ⟨.tuple [],[.cells [I o,L1 br,I h,I c],.cells (bc o br h c ps nilV (List.replicate 21 0))],fun C=>by kernel_rfl,?_⟩
 conv=>whnf
 subst g12
 unfold rc59_12
 obtain ⟨c2,g2⟩:∃ c,rc59_2=c:=⟨_,rfl⟩
 obtain ⟨c11,g11⟩:∃ c,rc59_11=c:=⟨_,rfl⟩
 rw [g2,g11]
 conv=>whnf
 refine .intro (fun m T H=>∃ (i:Nat) (Y:List AObj),i≤ps.length∧m=ps.length-i∧T=slots 90 [(5,.ptr 1 0),(22,PL ps),(23,I ps.length),(24,I i)]∧H=.cells [I o,L1 br,I h,I c]::.cells (bc o br h c ps nilV (wantL (ps.take i)))::Y∧Y.length=i) ps.length ⟨0,[],Nat.zero_le _,rfl,rfl,by rw [List.take_zero,wantL_nil],rfl⟩ ?_
 rintro m T H ⟨i,Y,hi,rfl,rfl,rfl,hY⟩
 conv=>whnf
 refine dcase (fun hc=>?_) (fun hc=>?_)
 ·have hlt:i<ps.length:=by omega
  have hp:=hps _ (List.getElem_mem hlt)
  conv=>whnf
  subst g2
  unfold rc59_2
  obtain ⟨c1,g1⟩:∃ c,rc59_1=c:=⟨_,rfl⟩
  rw [g1]
  conv=>whnf
  refine ⟨by omega,?_⟩
  conv=>whnf
  rw [show ((ps.flatMap pr).drop ((i:Int).toNat*2))=I ps[i].1::I ps[i].2::(ps.drop (i+1)).flatMap pr from prs_drop ps i hlt]
  conv=>whnf
  refine nthK_of (get_concat Y _) ?_
  conv=>whnf
  obtain ⟨W,hW⟩:∃ W,W=AObj.cells [I o,L1 br,I h,I c]::.cells (bc o br h c ps nilV (wantL (ps.take i)))::(Y++[.cells [I ps[i].1,I ps[i].2]]):=⟨_,rfl⟩
  have eW:((AObj.cells [I o,L1 br,I h,I c]::AObj.cells (bc o br h c ps nilV (wantL (ps.take i)))::Y)++[AObj.cells [AV.int .i64 0,AV.int .i64 0]]).set (AObj.cells [I o,L1 br,I h,I c]::AObj.cells (bc o br h c ps nilV (wantL (ps.take i)))::Y).length (.cells [I ps[i].1,I ps[i].2])=W:=by rw [hW,set_concat];rfl
  rw [show AObj.cells [(AV.int .i64 ps[i].1).settle,(AV.int .i64 ps[i].2).settle]=AObj.cells [I ps[i].1,I ps[i].2] from rfl,eW]
  obtain ⟨N,hN⟩:∃ N,N=(AObj.cells [I o,L1 br,I h,I c]::AObj.cells (bc o br h c ps nilV (wantL (ps.take i)))::Y).length:=⟨_,rfl⟩
  rw [←hN]
  have w1:W[1]?=some (.cells (bc o br h c ps nilV (wantL (ps.take i)))):=by rw [hW];rfl
  have wN:W[N]?=some (.cells [I ps[i].1,I ps[i].2]):=by rw [hW,hN];simp
  have hfin:∀ x:AObj,W.set 1 x=.cells [I o,L1 br,I h,I c]::x::(Y++[.cells [I ps[i].1,I ps[i].2]]):=fun x=>by rw [hW];rfl
  have hlw:=wantL_len (ps.take i)
  have hj:ps[i].1.toNat<(wantL (ps.take i)).length:=by omega
  have hbd:=wantL_bound (ps.take i) ps[i].1.toNat hj
  have htk:(ps.take i).length≤1000:=by simp;omega
  have hsn:=wantL_snoc (ps.take i) ps[i] hp
  have ets:ps.take (i+1)=ps.take i++[ps[i]]:=List.take_succ_eq_append_getElem hlt
  have hget:(bc o br h c ps nilV (wantL (ps.take i)))[0+6+ps[i].1.toNat*1]?=some (I (wantL (ps.take i))[ps[i].1.toNat]):=by
   rw [show 0+6+ps[i].1.toNat*1=ps[i].1.toNat+6 by omega]
   simp [bc,hj]
  have hset:(bc o br h c ps nilV (wantL (ps.take i))).set (0+6+ps[i].1.toNat*1) (I ((wantL (ps.take i))[ps[i].1.toNat]+1))=bc o br h c ps nilV (wantL (ps.take (i+1))):=by
   rw [show 0+6+ps[i].1.toNat*1=ps[i].1.toNat+6 by omega,ets,←hsn]
   simp [bc,List.map_set]
  have hbl:(bc o br h c ps nilV (wantL (ps.take i))).length=27:=by simp [bc,hlw]
  clear hW eW hN
  subst g1
  unfold rc59_1
  conv=>whnf
  refine nthK_of wN ?_
  conv=>whnf
  refine ⟨by omega,?_⟩
  conv=>whnf
  refine nthK_of w1 ?_
  conv=>whnf
  refine nthK_of hget ?_
  conv=>whnf
  refine ⟨by omega,?_⟩
  conv=>whnf
  refine nthK_of w1 ?_
  conv=>whnf
  refine updK_of (by omega) ?_
  rw [wrapI _ (by omega) (by omega),hset]
  conv=>whnf
  refine ⟨ps.length-(i+1),by omega,i+1,Y++[.cells [I ps[i].1,I ps[i].2]],by omega,rfl,by rw [←wrapS i (by omega)];rfl,hfin _,by simp [hY]⟩
 ·obtain rfl:i=ps.length:=by omega
  rw [List.take_length]
  conv=>whnf
  subst g11
  have hwn:wholeN o br≠[]:=whole_some hn hbr hl
  exact bench_mid hwn ho hbr hn hl (AObj.cells [I o,L1 br,I h,I c]::AObj.cells (bc o br h c ps nilV (wantL ps))::Y) _ _ _ _ rfl Q hQ
end

section
variable (l:List Int) (hl:l.length≤140737488355328)
include hl
end
section
variable (l:List (Int×Int)) (hl:l.length≤140737488355328)
include hl
end
def outOf (lo hi x:Int):Bool:=decide (x<lo) || decide (hi<x)
theorem outOf_false {lo hi x:Int}:outOf lo hi x=false↔lo≤x∧x≤hi:=by
 simp only [outOf,Bool.or_eq_false_iff,decide_eq_false_iff_not];omega
def riseGo (b:Int):Int→List Int→Bool
 | _,[]=>true
 | n,x::l=>if outOf n (b-1) x=true then false else riseGo b (x+1) l
def nextOf (l:List Int) (i:Nat):Int:=if i=0 then 0 else l.getD (i-1) 0+1
def bedErr (o:Int) (br:List Int) (h c:Int):Int:=if outOf 1 10 o=true then 6 else if riseGo o 0 br=false then 2 else if (br.length:Int)=o then 10 else if (outOf 0 20 h || outOf 0 10 c)=true then 3 else 0
end Go.Proofs.YtbnbjjgagikobaaGreat.Ab


namespace Go.Proofs.YtbnbjjgagikobaaGreat.Ab
open Go
theorem pr_len (x:Int×Int):(pr x).length=2:=rfl
abbrev Bed:Type:=Int×List Int×Int×Int
abbrev Bench:Type:=Bed×List (Int×Int)×List Int×List Int
def x59 (b:Bed) (ps:List (Int×Int)):Option Bench :=
 if 1≤b.1∧b.1≤10∧(∀ x∈b.2.1,0≤x∧x<b.1)∧b.2.1.Nodup∧(b.2.1.length:Int)<b.1∧(∀ p∈ps,0≤p.1∧p.1≤20)∧ps.length≤1000 then
  some (b,ps,wholeL b.1.toNat b.2.1,wantL ps)
 else none
theorem x59_ok {b:Bed} {ps:List (Int×Int)} {v:Bench} (h:x59 b ps=some v):PO 59 [.agg [I b.1,.lst (b.2.1.map I) b.2.1.length .shared,I b.2.2.1,I b.2.2.2],.lst (ps.flatMap pr) ps.length .shared]
  (.lptr (I v.1.1::.lst (v.1.2.1.map I) v.1.2.1.length .shared::I v.1.2.2.1::I v.1.2.2.2::.lst (v.2.1.flatMap pr) v.2.1.length .shared::.lst (v.2.2.1.map I) v.2.2.1.length .shared::v.2.2.2.map I)):=by
 unfold x59 at h
 split at h
 ·rename_i hc
  obtain ⟨h1,h2,h3,h4,h5,h6,h7⟩:=hc
  obtain rfl:=Option.some.inj h
  have e:((b.1.toNat:Nat):Int)=b.1:=by omega
  have:=bench_ok (o:=b.1.toNat) (br:=b.2.1) (h:=b.2.2.1) (c:=b.2.2.2) (ps:=ps) (by omega) (by omega) (fun x hx=>by rw [e];exact h3 x hx) h4 (by omega) h6 h7
  unfold Bd bnV bc at this
  rw [e] at this
  exact this
 ·cases h
end Go.Proofs.YtbnbjjgagikobaaGreat.Ab


namespace Go.Proofs.YtbnbjjgagikobaaGreat.Ab
open Go Go.ChangeShapes Go.WideShapes Go.ChangeAt Go.RowKit
set_option maxRecDepth 100000
section
variable {H:Type} {enc:TypeId×Value→H} {w:World} {base:Nat}
def Qi:AV→Prop:=fun u=>∃ x,u=I x∧Fi x
def Ql:AV→Prop:=fun u=>∃ l,u=L1 l∧Fl l
theorem cel_i3:Cel enc Tryz.prog w 3 Qi:=fun n v y h=>by
 obtain ⟨u,a,b,c,x,rfl,d⟩:=cel_int (P:=Tryz.prog) Tryz.underlying3 n v y h
 exact ⟨_,a,b,c,x,rfl,wf_i64 d⟩
theorem cel_i2:Cel enc Tryz.prog w 2 Qi:=fun n v y h=>by
 obtain ⟨u,a,b,c,x,rfl,d⟩:=cel_int (P:=Tryz.prog) Tryz.underlying2 n v y h
 exact ⟨_,a,b,c,x,rfl,wf_i64 d⟩
theorem cel_l22:Cel enc Tryz.prog w 22 Ql:=cel_L1 Tryz.underlying22 (by kernel_rfl) Tryz.underlying3
theorem flds_panel : Flds enc Tryz.prog w #[{ name := "Heat", type := 3, offset := 0, embedded := false, tag := "", pkgPath := "", byteOffset := 0 }, { name := "Hours", type := 2, offset := 1, embedded := false, tag := "", pkgPath := "", byteOffset := 8 }] [Qi, Qi] := ⟨rfl, fun i f q hf hq => by
 match i with
 | 0=>simp at hf hq;subst hf;subst hq;exact ⟨rfl,by kernel_rfl,cel_i3⟩
 | 1=>simp at hf hq;subst hf;subst hq;exact ⟨rfl,by kernel_rfl,cel_i2⟩
 | i+2=>simp at hq⟩
theorem panel_of {us:List AV} (h:AllQ [Qi,Qi] us):∃ p:Int×Int,us=pr p∧Fi p.1∧Fi p.2:=by
 obtain ⟨hl,h⟩:=h
 match us,hl with
 | [a,b],_ =>
   obtain ⟨x,rfl,hx⟩:=h 0 _ _ rfl rfl
   obtain ⟨y,rfl,hy⟩:=h 1 _ _ rfl rfl
   exact ⟨(x,y),rfl,hx,hy⟩
def Fp (ps:List (Int×Int)):Prop:=ps.length≤9223372036854775807∧∀ p∈ps,Fi p.1∧Fi p.2
theorem arg_panels:Arg enc Tryz.prog w base 25 fun u=>∃ ps,u=PL ps∧Fp ps:=by
 refine arg_slice Tryz.underlying25 fun n v y h=>?_
 obtain ⟨u,a,b,c,L,rfl,hl,hL⟩:=cel_structs Tryz.underlying25 Tryz.underlying60 (by kernel_rfl) (by decide) flds_panel n v y h
 obtain ⟨ps,rfl,hp⟩:=map_of' (f:=pr) (R:=fun p:Int×Int=>Fi p.1∧Fi p.2) fun us hu=>by
  obtain ⟨p,e,h1,h2⟩:=panel_of (hL us hu);exact ⟨p,e,h1,h2⟩
 refine ⟨_,a,b,c,ps,?_,by have:=maxLen_le hl;simpa using this,hp⟩
 simp [PL,PLw,List.flatMap_def]
structure Fb (b:Bed):Prop where
 o:Fi b.1
 l:Fl b.2.1
 h:Fi b.2.2.1
 c:Fi b.2.2.2
theorem arg_bed:Arg enc Tryz.prog w base 24 fun u=>∃ b:Bed,u=.agg [I b.1,L1 b.2.1,I b.2.2.1,I b.2.2.2]∧Fb b:=by
 intro v d p hv hd
 obtain ⟨u,a,b,us,rfl,hl,hu⟩:=arg_struct (P:=Tryz.prog) (enc:=enc) (w:=w) (base:=base) (Qs:=[Qi,Ql,Qi,Qi]) Tryz.underlying24 (by kernel_rfl) ⟨rfl,fun i f q hf hq=>by
  match i with
  | 0=>simp at hf hq;subst hf;subst hq;exact ⟨rfl,by kernel_rfl,cel_i3⟩
  | 1=>simp at hf hq;subst hf;subst hq;exact ⟨rfl,by kernel_rfl,cel_l22⟩
  | 2=>simp at hf hq;subst hf;subst hq;exact ⟨rfl,by kernel_rfl,cel_i3⟩
  | 3=>simp at hf hq;subst hf;subst hq;exact ⟨rfl,by kernel_rfl,cel_i2⟩
  | i+4=>simp at hq⟩ v d p hv hd
 match us,hl with
 | [a0,a1,a2,a3],_ =>
   obtain ⟨x,rfl,hx⟩:=hu 0 _ _ rfl rfl
   obtain ⟨y,rfl,hy⟩:=hu 1 _ _ rfl rfl
   obtain ⟨z,rfl,hz⟩:=hu 2 _ _ rfl rfl
   obtain ⟨t,rfl,ht⟩:=hu 3 _ _ rfl rfl
   exact ⟨_,a,b,(x,y,z,t),rfl,hx,hy,hz,ht⟩
theorem arg_y:Arg enc Tryz.prog w base 53 fun u=>∃ l,u=Y1 l∧Fy l:=arg_slice Tryz.underlying53 (cel_Y1 Tryz.underlying53 (by kernel_rfl) Tryz.underlying5)
theorem arg_u16:Arg enc Tryz.prog w base 54 fun u=>∃ x,u=.int .u16 x∧0≤x∧x≤65535:=fun v d p hv hd=>by
 obtain ⟨u,a,b,x,rfl,h⟩:=arg_int (P:=Tryz.prog) (enc:=enc) (w:=w) (base:=base) Tryz.underlying54 v d p hv hd
 have h1:IntKind.u16.min=0:=rfl
 have h2:IntKind.u16.max=65535:=rfl
 simp only [Lit.wf,Bool.and_eq_true,decide_eq_true_eq] at h
 exact ⟨_,a,b,x,rfl,by omega,by omega⟩
end
end Go.Proofs.YtbnbjjgagikobaaGreat.Ab


namespace Go.Proofs.YtbnbjjgagikobaaGreat.Ab
open Go Go.ChangeShapes Go.WideShapes Go.ChangeAt Go.RowKit
section
variable {H:Type} {enc:TypeId×Value→H} {P:Program} {w:World} {base:Nat} {spare:Nat→Bool} {held:Bool}
end
end Go.Proofs.YtbnbjjgagikobaaGreat.Ab


namespace Go.Proofs.YtbnbjjgagikobaaGreat.Ab
open Go
theorem frz_fn {H:List AObj} {lo i n d:Nat} {k:FuncId} {a b a' b':List AV} (h1:mapO (frz H lo i n d) a=some a') (h2:mapO (frz H lo i n d) b=some b'):frz H lo i n (d+1) (.func k a b)=some (.func k a' b'):=by simp only [frz,h1,h2]
theorem rng_wp {α:Type} {P:Program} {A:FAnn} {fn:FuncId} {rl:Option Nat} {k:FuncId} {cap:List AV} {t:Nat} {ps:List Nat} {as' bd:Code} {T:List AV} {H Hn:List AObj} {Q:Ex→List AV→List AObj→Prop} {f:α→AV} {L:List α} (hseq:Seq P k cap (L.map f))
  (Obj:Nat→List AObj) (ht:getT T t=.func k [] cap) (h0:Obj 0=H) (hlen:∀ i,(Obj i).length=H.length)
  (hround:∀ (i:Nat) (h:i<L.length) (Y:List AObj),∃ Y',Sem P (.yield H.length) [f L[i]] ((Obj i++[.loop .ready none fn (T.map AV.view) ps as' bd A])++Y) 0 (.bool true) ((Obj (i+1)++[.loop .ready none fn (T.map AV.view) ps as' bd A])++Y'))
  (hin:inLoop H rl=true) (hn:Obj L.length=Hn) (hQ:∀ Y',Q .normal (T.map AV.settle) ((Hn++[.dead])++Y')):wpR P A fn 0 rl (.rng (.sl t) ps as' bd) T H Q:=by
 show getK T t _
 rw [getK_eq,ht]
 exact rng_ok hseq Obj h0 hlen hround hin hn hQ
end Go.Proofs.YtbnbjjgagikobaaGreat.Ab


namespace Go.Proofs.YtbnbjjgagikobaaGreat.Ab
open Go
theorem w_id {n:Int} (h:-9223372036854775808≤n∧n≤9223372036854775807):w n=n:=w_eq h.1 h.2
theorem w_succ (i:Nat) (h:i≤9223372036854775806):w ((i:Int)+1)=((i+1:Nat):Int):=wrapS i h
theorem iflt {i n:Nat} {ρ:Type} {x y:Option ρ} (h:i<n):(if (decide ((i:Int)<(n:Int)))=true then x else y)=x:=by rw [if_pos (decide_eq_true (by omega))]
theorem ifge {i n:Nat} {ρ:Type} {x y:Option ρ} (h:¬ i<n):(if (decide ((i:Int)<(n:Int)))=true then x else y)=y:=by rw [if_neg (by rw [decide_eq_true_eq];omega)]
theorem gdi {i n:Nat} {ρ:Type} {x:Option ρ} (h:i<n):gd (0≤(i:Int)∧(i:Int)<(n:Int)) x=x:=gd_pos ⟨by omega,by omega⟩
end Go.Proofs.YtbnbjjgagikobaaGreat.Ab


namespace Go.Proofs.YtbnbjjgagikobaaGreat.Ab
open Go
set_option maxRecDepth 20000
set_option maxHeartbeats 4000000
def turn (l:List Int) (i:Nat):List Int:=l.take i++(l.drop i).reverse
def revT (g:List Int) (off t:Nat):List Int:=(List.range g.length).map fun x=>if off≤x∧(x-off<t∨g.length-t≤x) then g.getD (off+g.length-1-x) 0 else g.getD x 0
theorem revT_len (g:List Int) (off t:Nat):(revT g off t).length=g.length:=by simp [revT]
theorem revT_get (g:List Int) (off t x:Nat) (h:x<g.length):(revT g off t)[x]?=some (if off≤x∧(x-off<t∨g.length-t≤x) then g.getD (off+g.length-1-x) 0 else g.getD x 0):=by
 simp [revT,h]
theorem revT_zero (g:List Int) (off:Nat):revT g off 0=g:=by
 apply List.ext_getElem?
 intro x
 by_cases h:x<g.length
 ·rw [revT_get g off 0 x h,if_neg (by omega)]
  simp [h,List.getD_eq_getElem?_getD]
 ·rw [List.getElem?_eq_none (by rw [revT_len];omega),List.getElem?_eq_none (by omega)]
theorem revT_step (g:List Int) (off t:Nat) (ht:off+t<g.length-1-t):((revT g off t).set (off+t) (g.getD (g.length-1-t) 0)).set (g.length-1-t) (g.getD (off+t) 0)=revT g off (t+1):=by
 apply List.ext_getElem?
 intro x
 by_cases h:x<g.length
 ·rw [revT_get g off (t+1) x h]
  by_cases h1:x=g.length-1-t
  ·subst h1
   rw [List.getElem?_set_self (by rw [List.length_set,revT_len];omega),if_pos (by omega)]
   congr 2;omega
  ·rw [List.getElem?_set_ne (by omega)]
   by_cases h2:x=off+t
   ·subst h2
    rw [List.getElem?_set_self (by rw [revT_len];omega),if_pos (by omega)]
    congr 2;omega
   ·rw [List.getElem?_set_ne (by omega),revT_get g off t x h]
    by_cases h3:off≤x∧(x-off<t∨g.length-t≤x)
    ·rw [if_pos h3,if_pos (by omega)]
    ·rw [if_neg h3,if_neg (by omega)]
 ·rw [List.getElem?_eq_none (by simp [revT_len];omega),List.getElem?_eq_none (by rw [revT_len];omega)]
theorem revT_end (g:List Int) (off t:Nat) (ho:off≤g.length) (ht:g.length-1-t≤off+t):revT g off t=turn g off:=by
 apply List.ext_getElem?
 intro x
 unfold turn
 by_cases h:x<g.length
 ·rw [revT_get g off t x h]
  by_cases h1:x<off
  ·rw [if_neg (by omega),List.getElem?_append_left (by simp;omega),List.getElem?_take,if_pos h1]
   simp [h,List.getD_eq_getElem?_getD]
  ·rw [List.getElem?_append_right (by simp;omega),List.length_take,Nat.min_eq_left ho,List.getElem?_reverse (by simp;omega),List.getElem?_drop,List.length_drop]
   have e:off+(g.length-off-1-(x-off))=off+g.length-1-x:=by omega
   rw [e]
   have hl:off+g.length-1-x<g.length:=by omega
   by_cases h3:off≤x∧(x-off<t∨g.length-t≤x)
   ·rw [if_pos h3];simp [hl,List.getD_eq_getElem?_getD]
   ·rw [if_neg h3]
    have:x=off+g.length-1-x:=by omega
    rw [←this];simp [h,List.getD_eq_getElem?_getD]
 ·rw [List.getElem?_eq_none (by rw [revT_len];omega),List.getElem?_eq_none (by simp;omega)]
theorem clone_ok (l:List Int) (h0:0<l.length) (hl:l.length≤1000000):PO 94 [.lst (l.map I) l.length .shared] (.lst (l.map I) l.length (.uniq 1)):=by
 refine fn_pure hmix lk94 rfl (pu_map (fun _=>rfl) _ _ _) ?_
 unfold rc94
 conv=>whnf
 obtain ⟨x,r,rfl⟩:∃ x r,l=x::r:=by
  cases l with
  | nil=>simp at h0
  | cons x r=>exact ⟨x,r,rfl⟩
 refine ⟨.bool false,[],fun C=>by kernel_rfl,?_⟩
 conv=>whnf
 refine ⟨by simp,by omega,?_⟩
 conv=>whnf
 refine ⟨by simp,?_⟩
 conv=>whnf
 refine ⟨by omega,?_⟩
 conv=>whnf
 exact ret_pure (.inr rfl) (pu_map (fun _=>rfl) _ _ _) (by rw [Nat.zero_add];rfl)
theorem reverse_sem (g:List Int) (off:Nat) (ho:off<g.length) (hg:g.length≤1000000) {H:List AObj} {id lo:Nat} (hlo:lo≤id) (hH:H[id]?=some (.cells (g.map I))) :
  Sem Go.Proofs.Tryz.prog (.fn 95) [.ref id off (g.length-off) none 1] H lo (.tuple []) (H.set id (.cells ((turn g off).map I))):=by
 have hid:=(List.getElem?_eq_some_iff.1 hH).1
 refine fn_sem hmix lk95 rfl ⟨by simp,fun j h1 h2=>by rw [List.getElem?_set_ne (by omega)]⟩ ?_
 unfold rc95
 conv=>whnf
 rw [show IntKind.i64.wrap (((g.length-off:Nat):Int)-1)=((g.length-off-1:Nat):Int) by rw [wrapI _ (by omega) (by omega)];omega]
 have hb:Nat.ble lo id=true:=Nat.ble_eq_true_of_le hlo
 have gs:∀ c:AObj,(H.set id c)[id]?=some c:=fun c=>by rw [List.getElem?_set_self hid]
 have gss:∀ c d:AObj,((H.set id c).set id d)[id]?=some d:=fun c d=>by rw [List.set_set,gs]
 refine .intro (fun m T H'=>∃ t,2*t≤g.length-off∧m=g.length-t∧T=slots 28 [(0,.ref id off (g.length-off) none 1),(2,I t),(3,I (g.length-off-1-t:Nat))]∧H'=H.set id (.cells ((revT g off t).map I))) g.length ⟨0,by omega,rfl,rfl,?_⟩ ?_
 ·rw [revT_zero]
  obtain ⟨h1,h2⟩:=List.getElem?_eq_some_iff.1 hH
  rw [←h2,List.set_getElem_self]
 rintro m T H' ⟨t,ht,rfl,rfl,rfl⟩
 conv=>whnf
 refine dcase (fun h=>?_) (fun h=>?_)
 ·conv=>whnf
  have e1:0+off+((g.length-off-1-t:Nat):Int).toNat*1=g.length-1-t:=by omega
  have e2:off+((g.length-off-1-t:Nat):Int).toNat*1=g.length-1-t:=by omega
  have e3:off+(t:Int).toNat*1=off+t:=by omega
  refine ⟨by omega,?_⟩
  conv=>whnf
  refine nthK_of (gs _) ?_
  conv=>whnf
  refine nthK_of (x:=I (g.getD (g.length-1-t) 0)) (by rw [e2,List.getElem?_map,revT_get g off t _ (by omega),if_neg (by omega)];rfl) ?_
  conv=>whnf
  refine ⟨by omega,?_⟩
  conv=>whnf
  refine nthK_of (gs _) ?_
  conv=>whnf
  refine nthK_of (x:=I (g.getD (off+t) 0)) (by rw [e3,List.getElem?_map,revT_get g off t _ (by omega),if_neg (by omega)];rfl) ?_
  conv=>whnf
  refine ⟨by omega,?_⟩
  conv=>whnf
  rw [hb]
  conv=>whnf
  refine nthK_of (gs _) ?_
  conv=>whnf
  refine updK_of (by rw [List.length_map,revT_len];omega) ?_
  conv=>whnf
  refine ⟨by omega,?_⟩
  conv=>whnf
  rw [hb]
  conv=>whnf
  refine nthK_of (gss _ _) ?_
  conv=>whnf
  refine updK_of (by rw [List.length_set,List.length_map,revT_len];omega) ?_
  conv=>whnf
  refine ⟨g.length-(t+1),by omega,t+1,by omega,rfl,?_,?_⟩
  ·rw [←wrapS t (by omega),show ((g.length-off-1-(t+1):Nat):Int)=IntKind.i64.wrap (((g.length-off-1-t:Nat):Int)-1) by rw [wrapI _ (by omega) (by omega)];omega]
   rfl
  ·rw [List.set_set,List.set_set,←revT_step g off t (by omega),e2,e3,List.map_set,List.map_set]
 ·conv=>whnf
  refine ⟨.inl rfl,⟨by simp,fun j o hj=>?_⟩,rfl⟩
  rw [revT_end g off t (by omega) (by omega)]
  exact .inr hj

noncomputable def xrc93:RC :=
 .seq (.reg false [I_ 4 [.cv (.int .i64 0)] .mv]) (.seq (.reg false [I_ 5 [.sl 0] .mv,I_ 6 [.sl 1] .mv,I_ 7 [.tv 5,.tv 6] (.bin .sub),I_ 8 [.tk 1] .mv,I_ 9 [.tk 0] .mv,I_ 10 [.tv 8,.tv 9] (.bin .sub),I_ 11 [.tk 7,.tk 10]
 .max,I_ 4 [.tk 11] .mv]) .ret)
theorem lxx93:linkF Tryz.prog ann93 93=some (xrc93,12,[.tmp 4]):=by kernel_rfl
def x93 (a:Int) (b:Int):Option Int :=
 some (max (w (a-b)) (w (b-a)))
theorem x93_ok {a:Int} {b:Int} {v:Int} (h:x93 a b=some v):PO 93 [(I a),(I b)] (I v):=by
 refine fn_pureW hmix lxx93 rfl rfl fun Q hQ=>?_
 have hR:∀ T H,RetW [.tmp 4] (I v) .ret T H→Q .ret T H:=fun T H hh=>hQ _ T H hh
 unfold x93 at h
 unfold xrc93
 skip
 conv=>whnf
 obtain rfl:=Option.some.inj h
 exact hR _ _ ⟨.inr rfl,_,rfl,_,frz_pure rfl,rfl⟩

def farD (a b:Int):Int:=max (w (a-b)) (w (b-a))
def nearer (h:Int) (a b:List Int):Bool:=decide (farD h (ix a 0)<farD h (ix b 0))
theorem nearer_ok (x:Bench) (a b:List Int) (ha:0<a.length) (hb:0<b.length):PO 97 [.lst (a.map I) a.length .shared,.lst (b.map I) b.length .shared,.lptr [.lptr (I x.1.1::.lst (x.1.2.1.map I) x.1.2.1.length .shared::I x.1.2.2.1::I x.1.2.2.2::.lst (x.2.1.flatMap pr) x.2.1.length .shared::.lst (x.2.2.1.map I) x.2.2.1.length .shared::x.2.2.2.map I)]] (B (nearer x.1.2.2.1 a b)):=by
 have h1:x93 x.1.2.2.1 (ix a 0)=some (farD x.1.2.2.1 (ix a 0)):=rfl
 have h2:x93 x.1.2.2.1 (ix b 0)=some (farD x.1.2.2.1 (ix b 0)):=rfl
 have ha':0≤(0:Int)∧(0:Int)<(a.length:Int):=by omega
 have hb':0≤(0:Int)∧(0:Int)<(b.length:Int):=by omega
 refine fn_pureQ hmix lk97 rfl rfl fun Q hQ=>?_
 unfold rc97
 conv=>whnf
 refine ⟨ha',?_⟩
 rw [drop1 I a 0 ha']
 conv=>whnf
 refine ⟨rfl,_,x93_ok h1,acc0,?_⟩
 conv=>whnf
 refine ⟨hb',?_⟩
 rw [drop1 I b 0 hb']
 conv=>whnf
 refine ⟨rfl,_,x93_ok h2,?_,?_⟩
 ·intro p hp _ e
  obtain rfl:=List.mem_singleton.1 hp
  have:ix a 0=ix b 0:=by simpa using e
  simp only [this]
 conv=>whnf
 exact hQ _ _ _ (ret_pure (.inr rfl) rfl rfl)

theorem best_sem (x:Bench) (a b:List Int) (ha:0<a.length) (hb:0<b.length) (H:List AObj) (hH:H[0]?=some (.cells [.lptr (I x.1.1::.lst (x.1.2.1.map I) x.1.2.1.length .shared::I x.1.2.2.1::I x.1.2.2.2::.lst (x.2.1.flatMap pr) x.2.1.length .shared::.lst (x.2.2.1.map I) x.2.2.1.length .shared::x.2.2.2.map I)])) (r:List Int) (hr:r=if nearer x.1.2.2.1 b a=true then b else a) :
  Sem Tryz.prog (.fn 96) [.lst [.lst (a.map I) a.length .shared,.lst (b.map I) b.length .shared] 2 .shared,.func 97 [] [.ptr 0 0]] H H.length (.lst (r.map I) r.length .shared) H:=by
 refine fn_semQ hmix lk96 rfl (Low.refl _ _) fun Q hQ=>?_
 unfold rc96
 conv=>whnf
 refine ⟨⟨by decide,by decide⟩,?_⟩
 conv=>whnf
 refine ⟨⟨by decide,by decide⟩,?_⟩
 conv=>whnf
 refine .intro (fun m T H'=>∃ (o:List Int) (i:Nat),i≤1∧m=1-i∧o=(if i=0 then a else r)∧T=slots 25 [(1,.func 97 [] [.ptr 0 0]),(5,.lst (o.map I) o.length .shared),(12,.lst [.lst (b.map I) b.length .shared] 1 .shared),(13,I 1),(14,I (i:Int))]∧H'=H) 1 ⟨a,0,by omega,rfl,rfl,rfl,rfl⟩ ?_
 rintro m T H' ⟨o,i,hi,rfl,ho,rfl,rfl⟩
 conv=>whnf
 refine dcase (fun hc=>?_) (fun hc=>?_)
 ·obtain rfl:i=0:=by omega
  obtain rfl:o=a:=ho
  conv=>whnf
  refine ⟨⟨by decide,by decide⟩,?_⟩
  conv=>whnf
  have hs:[AV.lst (b.map I) b.length .shared,.lst (o.map I) o.length .shared,.ptr 0 0].map (shz H')=[AV.lst (b.map I) b.length .shared,.lst (o.map I) o.length .shared,.lptr [.lptr (I x.1.1::.lst (x.1.2.1.map I) x.1.2.1.length .shared::I x.1.2.2.1::I x.1.2.2.2::.lst (x.2.1.flatMap pr) x.2.1.length .shared::.lst (x.2.2.1.map I) x.2.2.1.length .shared::x.2.2.2.map I)]]:=by
   simp only [List.map_cons,List.map_nil,shz,shz0,hH];rfl
  refine ⟨_,_,call6' hs rfl (allc (pu_map (fun _=>rfl) _ _ _) (allc (pu_map (fun _=>rfl) _ _ _) (allc (pu_lptr (allc (pu_lptr (allc rfl (allc (pu_map (fun _=>rfl) _ _ _) (allc rfl (allc rfl (allc (pu_flat (fun _=>(allc rfl (allc rfl rfl))) _ _ _) (allc (pu_map (fun _=>rfl) _ _ _) (pu_run (fun _=>rfl) _)))))))) rfl)) rfl))) (nearer_ok x b o hb ha) rfl,?_⟩
  conv=>whnf
  cases hn:nearer x.1.2.2.1 b o with
  | true =>
    conv=>whnf
    rw [if_pos hn] at hr
    exact ⟨0,by omega,b,1,by omega,rfl,hr.symm,rfl,rfl⟩
  | false =>
    conv=>whnf
    rw [if_neg (by rw [hn];decide)] at hr
    exact ⟨0,by omega,o,1,by omega,rfl,hr.symm,rfl,rfl⟩
 ·obtain rfl:i=1:=by omega
  obtain rfl:o=r:=ho
  conv=>whnf
  exact hQ _ _ _ ⟨.inr rfl,⟨by simp,fun j o hj=>.inr hj⟩,rfl⟩
end Go.Proofs.YtbnbjjgagikobaaGreat.Ab


namespace Go.Proofs.YtbnbjjgagikobaaGreat.Ab
open Go
def fiveP:List (Int×Int):=[(4,6),(7,3),(4,5),(4,2),(7,3)]
def benchE (o:Nat) (br:List Int) (h c:Int) (ps:List (Int×Int)):Ent:=.pure 59 [Bd o br h c,PL ps] (bnV o br h c ps)
theorem benchE_ok {o:Nat} {br:List Int} {h c:Int} {ps:List (Int×Int)} (ho1:1≤o) (ho:o≤10) (hbr:∀ x∈br,0≤x∧x<o) (hn:br.Nodup) (hl:br.length<o) (hps:∀ p∈ps,0≤p.1∧p.1≤20) (hpl:ps.length≤1000):entOk Go.Proofs.Tryz.prog (benchE o br h c ps) :=
 bench_ok ho1 ho hbr hn hl hps hpl
def benchL:List Ent:=[benchE 3 [2] 5 1 fiveP,benchE 3 [2] 5 1 []]
theorem benchL_ok:∀ e∈benchL,entOk Go.Proofs.Tryz.prog e:=by
 simp only [benchL,List.forall_mem_cons]
 exact ⟨benchE_ok (by decide) (by decide) (by decide) (by decide) (by decide) (by decide) (by decide),benchE_ok (by decide) (by decide) (by decide) (by decide) (by decide) (by decide) (by decide),by simp⟩
end Go.Proofs.YtbnbjjgagikobaaGreat.Ab


namespace Go.Proofs.YtbnbjjgagikobaaGreat.Ab
open Go
def w1:Ent:=.pure 18 [.agg [.int .i64 3,.lst [.int .i64 2] 1 .shared,.int .i64 5,.int .i64 1]] (.tuple [.lst [.int .i64 0,.int .i64 1] 2 .full,.int .i64 0])
theorem w1_ok:entOk Go.Proofs.Tryz.prog w1:=runC_ok benchL_ok (by kernel_rfl)
def w2:Ent:=.pure 26 [.agg [.int .i64 3,.lst [.int .i64 2] 1 .shared,.int .i64 5,.int .i64 1],.lst [.int .i64 4,.int .i64 6,.int .i64 7,.int .i64 3,.int .i64 4,.int .i64 5,.int .i64 4,.int .i64 2,.int .i64 7,.int .i64 3] 5 .shared,.lst [.lst [.int .i64 0,.int .i64 2] 2 .shared,.lst [.int .i64 3] 1 .shared,.lst [.int .i64 1,.int .i64 4] 2 .shared] 3 .shared] (.tuple [.int .i64 11,.int .i64 4,.int .i64 0])
theorem w2_ok:entOk Go.Proofs.Tryz.prog w2:=runC_ok benchL_ok (by kernel_rfl)
def w3:Ent:=.pure 26 [.agg [.int .i64 3,.lst [.int .i64 2] 1 .shared,.int .i64 5,.int .i64 1],.lst [.int .i64 4,.int .i64 6,.int .i64 7,.int .i64 3,.int .i64 4,.int .i64 5,.int .i64 4,.int .i64 2,.int .i64 7,.int .i64 3] 5 .shared,.lst [.lst [.int .i64 0,.int .i64 1] 2 .shared,.lst [.int .i64 2] 1 .shared,.lst [.int .i64 3] 1 .shared,.lst [.int .i64 4] 1 .shared] 4 .shared] (.tuple [.int .i64 0,.int .i64 0,.int .i64 24])
theorem w3_ok:entOk Go.Proofs.Tryz.prog w3:=runC_ok benchL_ok (by kernel_rfl)
def w4:Ent:=.pure 26 [.agg [.int .i64 3,.lst [.int .i64 2] 1 .shared,.int .i64 5,.int .i64 1],.lst [.int .i64 4,.int .i64 6,.int .i64 7,.int .i64 3,.int .i64 4,.int .i64 5,.int .i64 4,.int .i64 2,.int .i64 7,.int .i64 3] 5 .shared,.lst [.lst [.int .i64 0,.int .i64 2,.int .i64 3] 3 .shared,.lst [.int .i64 1,.int .i64 4] 2 .shared] 2 .shared] (.tuple [.int .i64 0,.int .i64 0,.int .i64 10])
theorem w4_ok:entOk Go.Proofs.Tryz.prog w4:=runC_ok benchL_ok (by kernel_rfl)
def w5:Ent:=.pure 26 [.agg [.int .i64 3,.lst [.int .i64 2] 1 .shared,.int .i64 5,.int .i64 1],.lst [.int .i64 4,.int .i64 6,.int .i64 7,.int .i64 3,.int .i64 4,.int .i64 5,.int .i64 4,.int .i64 2,.int .i64 7,.int .i64 3] 5 .shared,.lst [.lst [.int .i64 0,.int .i64 2] 2 .shared,.lst [.int .i64 1,.int .i64 4] 2 .shared] 2 .shared] (.tuple [.int .i64 0,.int .i64 0,.int .i64 14])
theorem w5_ok:entOk Go.Proofs.Tryz.prog w5:=runC_ok benchL_ok (by kernel_rfl)
def w6:Ent:=.pure 26 [.agg [.int .i64 3,.lst [.int .i64 2] 1 .shared,.int .i64 5,.int .i64 1],.lst [.int .i64 4,.int .i64 6,.int .i64 7,.int .i64 3,.int .i64 4,.int .i64 5,.int .i64 4,.int .i64 2,.int .i64 7,.int .i64 3] 5 .shared,.lst [.lst [.int .i64 0,.int .i64 2] 2 .shared,.lst [.int .i64 0,.int .i64 3] 2 .shared,.lst [.int .i64 1,.int .i64 4] 2 .shared] 3 .shared] (.tuple [.int .i64 0,.int .i64 0,.int .i64 16])
theorem w6_ok:entOk Go.Proofs.Tryz.prog w6:=runC_ok benchL_ok (by kernel_rfl)
def w7:Ent:=.pure 26 [.agg [.int .i64 3,.lst [.int .i64 2] 1 .shared,.int .i64 5,.int .i64 1],.lst [.int .i64 4,.int .i64 6,.int .i64 7,.int .i64 3,.int .i64 4,.int .i64 5,.int .i64 4,.int .i64 2,.int .i64 7,.int .i64 3] 5 .shared,.lst [.lst [.int .i64 2,.int .i64 0] 2 .shared] 1 .shared] (.tuple [.int .i64 0,.int .i64 0,.int .i64 2])
theorem w7_ok:entOk Go.Proofs.Tryz.prog w7:=runC_ok benchL_ok (by kernel_rfl)
def w8:Ent:=.pure 33 [.agg [.int .i64 3,.lst [.int .i64 2] 1 .shared,.int .i64 5,.int .i64 1],.lst [.int .i64 4,.int .i64 6,.int .i64 7,.int .i64 3,.int .i64 4,.int .i64 5,.int .i64 4,.int .i64 2,.int .i64 7,.int .i64 3] 5 .shared] (.tuple [.int .i64 11,.int .i64 0])
theorem w8_ok:entOk Go.Proofs.Tryz.prog w8:=runC_ok benchL_ok (by kernel_rfl)
def w9:Ent:=.pure 35 [.agg [.int .i64 3,.lst [.int .i64 2] 1 .shared,.int .i64 5,.int .i64 1],.lst [.int .i64 4,.int .i64 6,.int .i64 7,.int .i64 3,.int .i64 4,.int .i64 5,.int .i64 4,.int .i64 2,.int .i64 7,.int .i64 3] 5 .shared] (.tuple [.int .i64 4,.int .i64 0])
theorem w9_ok:entOk Go.Proofs.Tryz.prog w9:=runC_ok benchL_ok (by kernel_rfl)
def w10:Ent:=.pure 37 [.agg [.int .i64 3,.lst [.int .i64 2] 1 .shared,.int .i64 5,.int .i64 1],.lst [.int .i64 4,.int .i64 6,.int .i64 7,.int .i64 3,.int .i64 4,.int .i64 5,.int .i64 4,.int .i64 2,.int .i64 7,.int .i64 3] 5 .shared] (.tuple [.lst [.lst [.int .i64 0,.int .i64 2] 2 .shared,.lst [.int .i64 3] 1 .shared,.lst [.int .i64 1,.int .i64 4] 2 .shared] 3 .shared,.int .i64 0])
theorem w10_ok:entOk Go.Proofs.Tryz.prog w10:=runC_ok benchL_ok (by kernel_rfl)
def w11:Ent:=.pure 28 [.agg [.int .i64 3,.lst [.int .i64 2] 1 .shared,.int .i64 5,.int .i64 1],.lst [.int .i64 4,.int .i64 6,.int .i64 7,.int .i64 3,.int .i64 4,.int .i64 5,.int .i64 4,.int .i64 2,.int .i64 7,.int .i64 3] 5 .shared,.lst [.lst [.int .i64 0,.int .i64 2] 2 .shared,.lst [.int .i64 3] 1 .shared,.lst [.int .i64 1,.int .i64 4] 2 .shared] 3 .shared] (.tuple [.lst [.int .i64 7,.int .i64 15,.int .i64 7,.int .i64 9,.int .i64 15] 5 .full,.int .i64 0])
theorem w11_ok:entOk Go.Proofs.Tryz.prog w11:=runC_ok benchL_ok (by kernel_rfl)
def w12:Ent:=.pure 30 [.agg [.int .i64 3,.lst [.int .i64 2] 1 .shared,.int .i64 5,.int .i64 1],.lst [.int .i64 4,.int .i64 6,.int .i64 7,.int .i64 3,.int .i64 4,.int .i64 5,.int .i64 4,.int .i64 2,.int .i64 7,.int .i64 3] 5 .shared,.lst [.lst [.int .i64 0,.int .i64 2] 2 .shared,.lst [.int .i64 3] 1 .shared,.lst [.int .i64 1,.int .i64 4] 2 .shared] 3 .shared] (.tuple [.lst [.int .i64 0,.int .i64 0,.int .i64 1,.int .i64 0,.int .i64 1] 5 .full,.int .i64 0])
theorem w12_ok:entOk Go.Proofs.Tryz.prog w12:=runC_ok benchL_ok (by kernel_rfl)
def w13:Ent:=.pure 38 [.agg [.int .i64 3,.lst [.int .i64 2] 1 .shared,.int .i64 5,.int .i64 1],.lst [.int .i64 4,.int .i64 6,.int .i64 7,.int .i64 3,.int .i64 4,.int .i64 5,.int .i64 4,.int .i64 2,.int .i64 7,.int .i64 3] 5 .shared,.lst [.int .i64 0,.int .i64 1,.int .i64 3] 3 .shared] (.tuple [.int .i64 11,.int .i64 0])
theorem w13_ok:entOk Go.Proofs.Tryz.prog w13:=runC_ok benchL_ok (by kernel_rfl)
def w14:Ent:=.pure 38 [.agg [.int .i64 3,.lst [.int .i64 2] 1 .shared,.int .i64 5,.int .i64 1],.lst [.int .i64 4,.int .i64 6,.int .i64 7,.int .i64 3,.int .i64 4,.int .i64 5,.int .i64 4,.int .i64 2,.int .i64 7,.int .i64 3] 5 .shared,.lst [.int .i64 0,.int .i64 1,.int .i64 2] 3 .shared] (.tuple [.int .i64 0,.int .i64 14])
theorem w14_ok:entOk Go.Proofs.Tryz.prog w14:=runC_ok benchL_ok (by kernel_rfl)
def w15:Ent:=.pure 38 [.agg [.int .i64 3,.lst [.int .i64 2] 1 .shared,.int .i64 5,.int .i64 1],.lst [.int .i64 4,.int .i64 6,.int .i64 7,.int .i64 3,.int .i64 4,.int .i64 5,.int .i64 4,.int .i64 2,.int .i64 7,.int .i64 3] 5 .shared,.lst [.int .i64 3,.int .i64 0] 2 .shared] (.tuple [.int .i64 0,.int .i64 2])
theorem w15_ok:entOk Go.Proofs.Tryz.prog w15:=runC_ok benchL_ok (by kernel_rfl)
def w16:Ent:=.pure 44 [.agg [.int .i64 3,.lst [.int .i64 2] 1 .shared,.int .i64 5,.int .i64 1],.lst [.int .i64 4,.int .i64 6,.int .i64 7,.int .i64 3,.int .i64 4,.int .i64 5,.int .i64 4,.int .i64 2,.int .i64 7,.int .i64 3] 5 .shared] (.tuple [.lst [.int .i64 0,.int .i64 1,.int .i64 3] 3 .shared,.int .i64 0])
theorem w16_ok:entOk Go.Proofs.Tryz.prog w16:=runC_ok benchL_ok (by kernel_rfl)
def w17:Ent:=.pure 40 [.agg [.int .i64 3,.lst [.int .i64 2] 1 .shared,.int .i64 5,.int .i64 1],.lst [.int .i64 4,.int .i64 6,.int .i64 7,.int .i64 3,.int .i64 4,.int .i64 5,.int .i64 4,.int .i64 2,.int .i64 7,.int .i64 3] 5 .shared] (.tuple [.int .i64 2,.int .i64 0])
theorem w17_ok:entOk Go.Proofs.Tryz.prog w17:=runC_ok benchL_ok (by kernel_rfl)
def w21:Ent:=.pure 42 [.agg [.int .i64 3,.lst [.int .i64 2] 1 .shared,.int .i64 5,.int .i64 1],.lst [.int .i64 4,.int .i64 6,.int .i64 7,.int .i64 3,.int .i64 4,.int .i64 5,.int .i64 4,.int .i64 2,.int .i64 7,.int .i64 3] 5 .shared,.int .i64 (-1)] (.tuple [.int .i64 0,.int .i64 2])
theorem w21_ok:entOk Go.Proofs.Tryz.prog w21:=runC_ok benchL_ok (by kernel_rfl)
def w22:Ent:=.pure 27 [.agg [.int .i64 3,.lst [.int .i64 2] 1 .shared,.int .i64 5,.int .i64 1],.lst [.int .i64 4,.int .i64 6,.int .i64 7,.int .i64 3,.int .i64 4,.int .i64 5,.int .i64 4,.int .i64 2,.int .i64 7,.int .i64 3] 5 .shared,.lst [.lst [.int .i64 0,.int .i64 2] 2 .shared,.lst [.int .i64 3] 1 .shared,.lst [.int .i64 1,.int .i64 4] 2 .shared] 3 .shared] (.tuple [.int .i64 11,.int .i64 4,.int .i64 0])
theorem w22_ok:entOk Go.Proofs.Tryz.prog w22:=runC_ok benchL_ok (by kernel_rfl)
def w23:Ent:=.pure 39 [.agg [.int .i64 3,.lst [.int .i64 2] 1 .shared,.int .i64 5,.int .i64 1],.lst [.int .i64 4,.int .i64 6,.int .i64 7,.int .i64 3,.int .i64 4,.int .i64 5,.int .i64 4,.int .i64 2,.int .i64 7,.int .i64 3] 5 .shared,.lst [.int .i64 0,.int .i64 1,.int .i64 3] 3 .shared] (.tuple [.int .i64 11,.int .i64 0])
theorem w23_ok:entOk Go.Proofs.Tryz.prog w23:=runC_ok benchL_ok (by kernel_rfl)
def h1:Ent:=.pure 70 [.lptr [.int .i64 3,.lst [.int .i64 2] 1 .shared,.int .i64 5,.int .i64 1,.lst [.int .i64 4,.int .i64 6,.int .i64 7,.int .i64 3,.int .i64 4,.int .i64 5,.int .i64 4,.int .i64 2,.int .i64 7,.int .i64 3] 5 .shared,.lst [.int .i64 0,.int .i64 1] 2 .shared,.int .i64 0,.int .i64 0,.int .i64 0,.int .i64 0,.int .i64 3,.int .i64 0,.int .i64 0,.int .i64 2,.int .i64 0,.int .i64 0,.int .i64 0,.int .i64 0,.int .i64 0,.int .i64 0,.int .i64 0,.int .i64 0,.int .i64 0,.int .i64 0,.int .i64 0,.int .i64 0,.int .i64 0],.int .i64 1] (.int .i64 19)
theorem h1_ok:entOk Go.Proofs.Tryz.prog h1:=runC_ok benchL_ok (by kernel_rfl)
def h2:Ent:=.pure 70 [.lptr [.int .i64 3,.lst [.int .i64 2] 1 .shared,.int .i64 5,.int .i64 1,.lst [.int .i64 4,.int .i64 6,.int .i64 7,.int .i64 3,.int .i64 4,.int .i64 5,.int .i64 4,.int .i64 2,.int .i64 7,.int .i64 3] 5 .shared,.lst [.int .i64 0,.int .i64 1] 2 .shared,.int .i64 0,.int .i64 0,.int .i64 0,.int .i64 0,.int .i64 3,.int .i64 0,.int .i64 0,.int .i64 2,.int .i64 0,.int .i64 0,.int .i64 0,.int .i64 0,.int .i64 0,.int .i64 0,.int .i64 0,.int .i64 0,.int .i64 0,.int .i64 0,.int .i64 0,.int .i64 0,.int .i64 0],.int .i64 2] (.int .i64 11)
theorem h2_ok:entOk Go.Proofs.Tryz.prog h2:=runC_ok benchL_ok (by kernel_rfl)
def h3:Ent:=.pure 70 [.lptr [.int .i64 3,.lst [.int .i64 2] 1 .shared,.int .i64 5,.int .i64 1,.lst [.int .i64 4,.int .i64 6,.int .i64 7,.int .i64 3,.int .i64 4,.int .i64 5,.int .i64 4,.int .i64 2,.int .i64 7,.int .i64 3] 5 .shared,.lst [.int .i64 0,.int .i64 1] 2 .shared,.int .i64 0,.int .i64 0,.int .i64 0,.int .i64 0,.int .i64 3,.int .i64 0,.int .i64 0,.int .i64 2,.int .i64 0,.int .i64 0,.int .i64 0,.int .i64 0,.int .i64 0,.int .i64 0,.int .i64 0,.int .i64 0,.int .i64 0,.int .i64 0,.int .i64 0,.int .i64 0,.int .i64 0],.int .i64 3] (.int .i64 9)
theorem h3_ok:entOk Go.Proofs.Tryz.prog h3:=runC_ok benchL_ok (by kernel_rfl)
def h4:Ent:=.pure 70 [.lptr [.int .i64 3,.lst [.int .i64 2] 1 .shared,.int .i64 5,.int .i64 1,.lst [.int .i64 4,.int .i64 6,.int .i64 7,.int .i64 3,.int .i64 4,.int .i64 5,.int .i64 4,.int .i64 2,.int .i64 7,.int .i64 3] 5 .shared,.lst [.int .i64 0,.int .i64 1] 2 .shared,.int .i64 0,.int .i64 0,.int .i64 0,.int .i64 0,.int .i64 3,.int .i64 0,.int .i64 0,.int .i64 2,.int .i64 0,.int .i64 0,.int .i64 0,.int .i64 0,.int .i64 0,.int .i64 0,.int .i64 0,.int .i64 0,.int .i64 0,.int .i64 0,.int .i64 0,.int .i64 0,.int .i64 0],.int .i64 4] (.int .i64 9)
theorem h4_ok:entOk Go.Proofs.Tryz.prog h4:=runC_ok benchL_ok (by kernel_rfl)
def h5:Ent:=.pure 70 [.lptr [.int .i64 3,.lst [.int .i64 2] 1 .shared,.int .i64 5,.int .i64 1,.lst [.int .i64 4,.int .i64 6,.int .i64 7,.int .i64 3,.int .i64 4,.int .i64 5,.int .i64 4,.int .i64 2,.int .i64 7,.int .i64 3] 5 .shared,.lst [.int .i64 0,.int .i64 1] 2 .shared,.int .i64 0,.int .i64 0,.int .i64 0,.int .i64 0,.int .i64 3,.int .i64 0,.int .i64 0,.int .i64 2,.int .i64 0,.int .i64 0,.int .i64 0,.int .i64 0,.int .i64 0,.int .i64 0,.int .i64 0,.int .i64 0,.int .i64 0,.int .i64 0,.int .i64 0,.int .i64 0,.int .i64 0],.int .i64 5] (.int .i64 9)
theorem h5_ok:entOk Go.Proofs.Tryz.prog h5:=runC_ok benchL_ok (by kernel_rfl)
def h6:Ent:=.pure 70 [.lptr [.int .i64 3,.lst [.int .i64 2] 1 .shared,.int .i64 5,.int .i64 1,.lst [.int .i64 4,.int .i64 6,.int .i64 7,.int .i64 3,.int .i64 4,.int .i64 5,.int .i64 4,.int .i64 2,.int .i64 7,.int .i64 3] 5 .shared,.lst [.int .i64 0,.int .i64 1] 2 .shared,.int .i64 0,.int .i64 0,.int .i64 0,.int .i64 0,.int .i64 3,.int .i64 0,.int .i64 0,.int .i64 2,.int .i64 0,.int .i64 0,.int .i64 0,.int .i64 0,.int .i64 0,.int .i64 0,.int .i64 0,.int .i64 0,.int .i64 0,.int .i64 0,.int .i64 0,.int .i64 0,.int .i64 0],.int .i64 6] (.int .i64 9)
theorem h6_ok:entOk Go.Proofs.Tryz.prog h6:=runC_ok benchL_ok (by kernel_rfl)
def h7:Ent:=.pure 70 [.lptr [.int .i64 3,.lst [.int .i64 2] 1 .shared,.int .i64 5,.int .i64 1,.lst [.int .i64 4,.int .i64 6,.int .i64 7,.int .i64 3,.int .i64 4,.int .i64 5,.int .i64 4,.int .i64 2,.int .i64 7,.int .i64 3] 5 .shared,.lst [.int .i64 0,.int .i64 1] 2 .shared,.int .i64 0,.int .i64 0,.int .i64 0,.int .i64 0,.int .i64 3,.int .i64 0,.int .i64 0,.int .i64 2,.int .i64 0,.int .i64 0,.int .i64 0,.int .i64 0,.int .i64 0,.int .i64 0,.int .i64 0,.int .i64 0,.int .i64 0,.int .i64 0,.int .i64 0,.int .i64 0,.int .i64 0],.int .i64 7] (.int .i64 9)
theorem h7_ok:entOk Go.Proofs.Tryz.prog h7:=runC_ok benchL_ok (by kernel_rfl)
def hoursL:List Ent:=benchL++[h1,h2,h3,h4,h5,h6,h7]
theorem hoursL_ok:∀ e∈hoursL,entOk Go.Proofs.Tryz.prog e:=by
 rw [hoursL,List.forall_mem_append]
 refine ⟨benchL_ok,?_⟩
 simp only [List.forall_mem_cons]
 exact ⟨h1_ok,h2_ok,h3_ok,h4_ok,h5_ok,h6_ok,h7_ok,by simp⟩
end Go.Proofs.YtbnbjjgagikobaaGreat.Ab


namespace Go.Proofs.YtbnbjjgagikobaaGreat.Ab
open Go
def w18:Ent:=.pure 42 [.agg [.int .i64 3,.lst [.int .i64 2] 1 .shared,.int .i64 5,.int .i64 1],.lst [.int .i64 4,.int .i64 6,.int .i64 7,.int .i64 3,.int .i64 4,.int .i64 5,.int .i64 4,.int .i64 2,.int .i64 7,.int .i64 3] 5 .shared,.int .i64 15] (.tuple [.int .i64 2,.int .i64 0])
theorem w18_ok:entOk Go.Proofs.Tryz.prog w18:=runC_ok hoursL_ok (by kernel_rfl)
def w19:Ent:=.pure 42 [.agg [.int .i64 3,.lst [.int .i64 2] 1 .shared,.int .i64 5,.int .i64 1],.lst [.int .i64 4,.int .i64 6,.int .i64 7,.int .i64 3,.int .i64 4,.int .i64 5,.int .i64 4,.int .i64 2,.int .i64 7,.int .i64 3] 5 .shared,.int .i64 13] (.tuple [.int .i64 3,.int .i64 0])
theorem w19_ok:entOk Go.Proofs.Tryz.prog w19:=runC_ok hoursL_ok (by kernel_rfl)
def w20:Ent:=.pure 42 [.agg [.int .i64 3,.lst [.int .i64 2] 1 .shared,.int .i64 5,.int .i64 1],.lst [.int .i64 4,.int .i64 6,.int .i64 7,.int .i64 3,.int .i64 4,.int .i64 5,.int .i64 4,.int .i64 2,.int .i64 7,.int .i64 3] 5 .shared,.int .i64 12] (.tuple [.int .i64 0,.int .i64 5])
theorem w20_ok:entOk Go.Proofs.Tryz.prog w20:=runC_ok hoursL_ok (by kernel_rfl)
end Go.Proofs.YtbnbjjgagikobaaGreat.Ab


namespace Go.Proofs.YtbnbjjgagikobaaGreat.Ab
open Go
def worksL:List Ent:=[w1,w2,w3,w4,w5,w6,w7,w8,w9,w10,w11,w12,w13,w14,w15,w16,w17,w18,w19,w20,w21,w22,w23]
theorem worksL_ok:∀ e∈worksL,entOk Go.Proofs.Tryz.prog e:=by
 simp only [worksL,List.forall_mem_cons]
 exact ⟨w1_ok,w2_ok,w3_ok,w4_ok,w5_ok,w6_ok,w7_ok,w8_ok,w9_ok,w10_ok,w11_ok,w12_ok,w13_ok,w14_ok,w15_ok,w16_ok,w17_ok,w18_ok,w19_ok,w20_ok,w21_ok,w22_ok,w23_ok,by simp⟩
abbrev WK:Prop:=PO 17 [] (B true)
theorem works_ok:WK:=runC_ok worksL_ok (by kernel_rfl)
end Go.Proofs.YtbnbjjgagikobaaGreat.Ab


namespace Go.Proofs.YtbnbjjgagikobaaGreat.Ab
open Go
def x17:Option Bool:=some true
theorem x17_ok {v:Bool} (h:x17=some v):PO 17 [] (B v):=by
 obtain rfl:=Option.some.inj h
 exact works_ok
end Go.Proofs.YtbnbjjgagikobaaGreat.Ab


namespace Go.Proofs.YtbnbjjgagikobaaGreat.Ab
open Go
set_option maxRecDepth 20000
set_option maxHeartbeats 4000000
def chunks (n:Nat) (l:List Int):List (List Int):=(List.range ((l.length+n-1) / n)).map fun j=>(l.drop (j*n)).take n
theorem chunks_len (n:Nat) (l:List Int):(chunks n l).length=(l.length+n-1) / n:=by simp [chunks]
theorem chunks_get (n:Nat) (l:List Int) (j:Nat) (h:j<(chunks n l).length):(chunks n l)[j]=(l.drop (j*n)).take n:=by simp [chunks]
theorem chunks_lt {n k j:Nat} (hn:0<n):j<(k+n-1) / n↔j*n<k:=by
 rw [Nat.lt_iff_add_one_le,Nat.le_div_iff_mul_le hn,Nat.add_mul,Nat.one_mul];omega
def s98 (l:List Int) (n:Int):Option (List (List Int)):=if 1≤n∧n≤1000∧l.length≤1000 then some (chunks n.toNat l) else none
theorem s98_ok {l:List Int} {n:Int} {v:List (List Int)} (h:s98 l n=some v):Seq Tryz.prog 98 [.lptr [L1 l],.lptr [I n]] (v.map fun e=>.lst (e.map I) e.length .full):=by
 unfold s98 at h
 split at h
 ·rename_i hc
  obtain rfl:=Option.some.inj h
  obtain ⟨q,rfl⟩:∃ q:Nat,n=q:=⟨n.toNat,by omega⟩
  have hq:0<q:=by omega
  rw [Int.toNat_natCast]
  intro L N Pre hlen hL hr Y
  obtain ⟨Z,hZ0,hZ⟩:=seq_states hr Y
  have hE:((chunks q l).map fun e=>AV.lst (e.map I) e.length .full).length=(l.length+q-1) / q:=by simp [chunks_len]
  generalize hm:(l.length+q-1) / q=cnt at hE
  have hZ':∀ j,j<cnt→Sem Tryz.prog (.yield L) [.lst (((l.drop (j*q)).take q).map I) ((l.drop (j*q)).take q).length .full] (Pre j++Z j) 0 (.bool true) (Pre (j+1)++Z (j+1)):=fun j hj=>by
   have:=hZ j (by rw [hE];exact hj)
   rw [List.getElem_map,chunks_get] at this
   exact this
  have hcl:∀ j,j<cnt↔j*q<l.length:=fun j=>by rw [←hm];exact chunks_lt hq
  refine ⟨Z cnt,?_⟩
  rw [hE]
  have hle:∀ j,j≤cnt→N≤(Pre j++Z j).length:=fun j _=>by simp [hlen]
  refine fn_semQ hmix lk98 rfl (low0 ?_) fun Q hQ=>?_
  ·have key:∀ j,j≤cnt→(Pre 0++Y).length≤(Pre j++Z j).length:=fun j=>by
    induction j with
    | zero=>intro _;rw [hZ0];exact Nat.le_refl _
    | succ j ih=>intro hj;exact Nat.le_trans (ih (by omega)) (hZ' j (by omega)).1.1
   exact key cnt (Nat.le_refl _)
  unfold rc98
  conv=>whnf
  refine .intro (fun m T H=>∃ j:Nat,j≤cnt∧m=cnt-j∧T=slots 31 [(0,.yield L),(1,.lptr [L1 l]),(2,.lptr [I q]),(4,I ((j*q:Nat):Int))]∧H=Pre j++Z j) cnt ⟨0,Nat.zero_le _,rfl,by rw [Nat.zero_mul];rfl,by rw [hZ0]⟩ ?_
  rintro m T H ⟨j,hj,rfl,rfl,rfl⟩
  conv=>whnf
  refine dcase (fun hc'=>?_) (fun hc'=>?_)
  ·have hlt:j*q<l.length:=by omega
   have hjc:j<cnt:=(hcl j).2 hlt
   conv=>whnf
   refine ⟨by omega,?_⟩
   erw [slLo I l ((j*q:Nat):Int) (by omega)]
   conv=>whnf
   have e1:(l.drop (((j*q:Nat):Int).toNat)).length=l.length-j*q:=by rw [Int.toNat_natCast,List.length_drop]
   rw [e1]
   have e2:IntKind.i64.wrap (((j*q:Nat):Int)+min (q:Int) ((l.length-j*q:Nat):Int))=((j*q+min q (l.length-j*q):Nat):Int):=by
    rw [wrapI _ (by omega) (by omega)];omega
   rw [e2]
   refine ⟨⟨rfl,by omega,by omega,by omega⟩,?_⟩
   erw [slLH I l ((j*q:Nat):Int) ((j*q+min q (l.length-j*q):Nat):Int) (by omega)]
   conv=>whnf
   have e3:(l.drop (((j*q:Nat):Int).toNat)).take ((((j*q+min q (l.length-j*q):Nat):Int)).toNat-((j*q:Nat):Int).toNat)=(l.drop (j*q)).take q:=by
    rw [Int.toNat_natCast,Int.toNat_natCast,show j*q+min q (l.length-j*q)-j*q=min q (l.length-j*q) by omega,←List.take_length (l:=(l.drop (j*q))),List.take_take,List.take_take]
    simp
   rw [e3]
   refine ⟨_,_,call1 (hZ' j hjc),?_⟩
   conv=>whnf
   refine ⟨cnt-(j+1),by omega,j+1,by omega,rfl,?_,rfl⟩
   rw [wrapI _ (by omega) (by omega),show ((j*q:Nat):Int)+(q:Int)=(((j+1)*q:Nat):Int) by rw [Nat.add_mul,Nat.one_mul];omega]
   rfl
  ·have hjc:¬ j<cnt:=fun h=>hc' (by have:=(hcl j).1 h;omega)
   obtain rfl:j=cnt:=by omega
   conv=>whnf
   exact hQ _ _ _ ⟨.inl rfl,Fgt.refl _,rfl⟩
 ·cases h
end Go.Proofs.YtbnbjjgagikobaaGreat.Ab
