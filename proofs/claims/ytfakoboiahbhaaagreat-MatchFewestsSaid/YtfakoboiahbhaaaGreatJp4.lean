
import Derived.Test.YtfakoboiahbhaaaGreatJp1
import Derived.Test.YtfakoboiahbhaaaGreatJp3
import Derived.Test.YtfakoboiahbhaaaGreatProg
import Derived.KernelRfl
import Derived.IntWalk
import Derived.ProofKit
import Derived.Deep.Slices
import Derived.ChangeStays
import Derived.Below
import Derived.WalkKit
import Derived.Sort.AssemblyPlain
set_option linter.unusedSimpArgs false
set_option linter.unusedVariables false
set_option linter.unusedSectionVars false

namespace Go.Proofs.YtfakoboiahbhaaaGreat.Ab
open Go
abbrev p4:cq:={ cx:=[true] }
abbrev p7:cq:={ cx:=[true,true] }
def p9 (l:List Nat):List cq:=l.map fun n=>match n with
 | 0=>{}
 | 1=>p4
 | _=>p7
def abg:c':={ ops:=[[{ mode:=3 }]] }
def abk:c':={ ops:=[[],[],[],[],[],[{},{ mode:=3 },{},{ mode:=3 },p7,p4,p4,p4,p7,{ cx:=[false,true] },p4,p4,p4,p7,{ cx:=[false,true] },p4,p4,p4,p7,{ cx:=[false,true] },p4,{},{},{ mode:=3 },{},{},{ mode:=3 },p7,{ cx:=[false,true] },p4,{ mode:=3 },{ cx:=[false,true] },p4]] }
def Qk:c':={ ops:=[[p4],[{},{ mode:=3 }],[{ mode:=3 },p4],[{},{ mode:=3 },p4,{},p4,p4,p4],[{},{ mode:=3 },p4,{},p4,p4,p4],[{},{ mode:=3 },p4,{},p4,p4,p4],[{},{ mode:=3 },p4,{},p4,p4,p4],[{},{ mode:=3 },p4,{},p4,p4,p4],[{},{ mode:=3 },p4,{},p4,p4,p4],[{},{ mode:=3 },p4,{},p4,p4,p4],[{},{ mode:=3 },p4,{},p4,p4,p4],[p4,{},p7,p4,p4,{},p7,{ cx:=[true,false,true] },p4,p4,p4,{ mode:=3 },p4,{ cx:=[true,false,true] },p4,p4,p4,p7,{ cx:=[true,false,true] },p4,p4,p4,p7,{ cx:=[true,false,true] },p4,p4,p4,p7,{ cx:=[true,false,true] },p4,p4,{},p7,{ cx:=[true,false,true] },p4,{},{},{ mode:=3 },p7,{ cx:=[true,false,true] },p4,{},{ mode:=3 },{ cx:=[true,false,true] },p4,{},p4,p4,{ cx:=[true,false,true] }],[],[{},p4,p4,{},p4,p4,p7,p4,p4,p4,p4,{},p4,{ mode:=3 },p4,p7,{ cx:=[true,false,true] }],[],[p4,p4],[p4,p4,p4,p4,{ mode:=3 },p7,p4],[p4,p4,{ mode:=3 },p4,{},p4,p4,p4],[p4,p4,p4,p4,p4,p7,p7,p4,{ mode:=3 },p7,p4]] }
def abA:c':={ ops:=[[],[],[],[],[],[],[{},{},p4,{ mode:=3 },{ mode:=3 },p4,{},{},p4,p4],[],[],[],[],[],[],[{},{},{},p7,p4,{ mode:=3 },{ mode:=3 },p4,{},{},p4,p4]] }
def abC:c':={ ops:=[[],[],[],[],[],[],[],[],[],[],[],[],[],[],[],[],[],[],[],[p4,p4,p4,{ mode:=3 },{ mode:=3 },p4,{},{},p4,p4]] }
def abH:c':={ ops:=[[],[],[],[],[],[],[],[],[],[],[],[{},p4,{},{},p4,p7,p7,{},{ cx:=[false,true] }],[],[],[],[],[{},{},{},p7,p4,{ mode:=3 },p4,{},{},{},p4,p4,p4],[{},{},{},p4,{},p4,p7,p7,p4,{ mode:=3 },p4,{},{},{},p4,p4,p4],[],[],(p9 [1,0,0,2,1,2,0,1,1,1,1,2,1])] }
def aaM:c':={ ops:=[[],[],[],[p4,p4,{},p4,p7,p4,p4,{},p4,p7,p7,{},{ cx:=[false,true] }],[{},p4,{},{},p4,p7,{},p4,p7,p7,{},{ cx:=[false,true] }]] }
def aaP:c':={ ops:=[[],[],[],[],[],[],[],[],[],[],[],[],[],[],[],[],[],[],[],[],[],[],[],[],[{},p4,{ mode:=3 },{ mode:=3 },p4,{},{},{},p4,p4,p4]] }
def aaT:c':={ bad:=true,ops:=[[{ cx:=[true],mode:=1 }],[{},{ mode:=3 },p4,p4,{},p4,p4,p4,{ cx:=[true,false,true] }],[{ mode:=3 },p4],[{},{ mode:=3 },p4,{},p4,p4,p4],[{},{ mode:=3 },p4,{},p4,p4,p4],(p9 [1,1,0,1,1,2,1]),[],[],(p9 [0,0,1,1,2]),(p9 [1,1,1]),(p9 [0,0,2]),(p9 [1,0,1,2,1]),[{},p4,{ mode:=3 },{},{ cx:=[true],mode:=3 },{},p7,{ cx:=[true],mode:=3 },{},{},{ cx:=[false,true] },{ cx:=[false,true] }],[{},{},p4,{},p4,{ mode:=3 },p4,{},p4,p4,p4],[p4,{ mode:=3 },p4,{},p4,p4,p4],[{},{ mode:=3 },p4,{},p4,p4,p4],[p4,p4,p4,p4,p4,p4,{},p4,p4,p7,{ cx:=[true,false,true] },p4,p4,p4,{ cx:=[true,false,true] },p4,p4,p4,{ cx:=[true,false,true] }],[],(p9 [0,1,0,1,2]),[p4,p4,p4,p4,p4,{ mode:=3 },p4,p7,p4,{ mode:=3 },p7,p4],[p4,p4,{ mode:=3 },{},p4,p7,p4,{},p4,p4,{},p4,p7,{ cx:=[true,false,true] }],[],[p4,p4],[p4,p4,{ mode:=3 },p4,{},{},p4,p4,p4,p4],[p4,p4,p4,p4,p4,p4,p4,p7,p7,p4,{ mode:=3 },p7,p4],[p4,{ mode:=3 },p4],[p4,p4,p4,p4,p7,p4,{},{},p4,p7,p4,p4,{ cx:=[true,false,true] },p4,p4,p4,p4,p7,p4,p4,{ cx:=[true,false,true] },p4,{ mode:=3 },p7,p4]],hW:=[(0,(DX false [2,1,2,2,1,4,175]))] }
def aa0:c':={ ops:=[[],[],[],(p9 [1,1,0,1,2,1,1,0,1,2,1,1]),[],[],[],[],[],[{},p4,p7,p4,{},p4,p4,p4,p7,{ cx:=[false,false,true] },p4,{},p4,{},p4,p7,{ cx:=[false,false,true] },p4,{},p4,{},{},p7,p4,{},{},p7,p4,p7,p7,{ cx:=[false,false,true] }],[],[],[],[],[],[],[],[],[],[],[],[{},{},{},p7,p4,{ mode:=3 },p4]] }
def aa4:c':={ ops:=[[],[],[],[{},p4,{},p4,p7,{},{},p4,p7,p7,{},{ cx:=[false,true] }],[],[],[],[{},{ cx:=[true],mode:=1 },{},p4,{},p7,p4,p4,{},p4,p7,{},p4,{},p7,p4,p4,{},p4,p7,p7,p4,p7,{},p7]] }
def abd:c':={ ops:=[[],[{ mode:=3 },{ mode:=3 },{ mode:=3 },{},{},{},{ cx:=[false,true] },{ cx:=[false,true] },{ cx:=[false,true] }],[{},{},{ mode:=3 },{ mode:=3 },p4,{},{},{},p4,p4,p4],[{},{},{ mode:=3 },{ mode:=3 },p4],[{},{ mode:=3 },p4,{},p4,p4,p4],[{},{ mode:=3 },p4,{},p4,p4,p4],[{},{ mode:=3 },p4,{},p4,p4,p4],[{},{ mode:=3 },p4,{},p4,p4,p4],[{},{ mode:=3 },p4,{},p4,p4,p4],[{},{ mode:=3 },p4,{},p4,p4,p4],[{},{ mode:=3 },p4,{},p4,p4,p4],[{},{ mode:=3 },p4,{},p4,p4,p4],[p4,{ mode:=3 },p4,{},p4,p4,p4],[p4,{ mode:=3 },p4,{},p4,p4,p4],[p4,p4,p4,p4,p4,p7,p4,p4,p4,p7,p4,p4,p4,p7,p4,p4,p4,p7,p4,p4,{},{ mode:=3 },{ mode:=3 },p7,p4,p4,p4,p7,p4,p4,{},{ mode:=3 },p4,{ mode:=3 },{ mode:=3 },p7,p4,p4,p4,p7,p4,p4,p4,p7,p4,p4,p4,p7,p4,p4,p4,p7,p4,p4,p4,p7,p4,p4,p4,p7,p4,p4,p4,p7,p4,p4,p4,p7,p4,p4,p4,p7,p4,p4,{},{ mode:=3 },{ mode:=3 },p7,p4,p4,p4,p7,p4,p4,{},{ mode:=3 },{ mode:=3 },p7,p4,p4,p4,p7,p4,p4,p4,p4,p7,p4,p4,p4,p7,p4,p4,{},{ mode:=3 },{ mode:=3 },p7,p4,p4,{ mode:=3 },p4,p7,p4,{ mode:=3 },p7,p4]] }
def Ub:c':={ ops:=[[p4],(p9 [1,1,1,1,1])] }
def abf:c':={ ops:=[[],[{ mode:=3 },{ mode:=3 },{ mode:=3 },{},{},{},{ cx:=[false,true] },{ cx:=[false,true] },{ cx:=[false,true] }],[{},{},{ mode:=3 },{ mode:=3 },p4,{},{},{},p4,p4,p4],[{},{},{ mode:=3 },{ mode:=3 },p4,{},{},{},p4,p4,p4],[{},{},{ mode:=3 },{ mode:=3 },p4,{},{},{},p4,p4,p4],[{},{},{ mode:=3 },{ mode:=3 },p4,{},{},{},p4,p4,p4],[{},{ mode:=3 },p4,{},{},p4,p4,p4,p4],[{},{},{ mode:=3 },{},{ mode:=3 },p7,{ mode:=3 },{ mode:=3 },p4,{},{},p4,p4],[{},{},{ mode:=3 },p4,{ mode:=3 },{ mode:=3 },p4,{},{},p4,p4],[{},{},{ mode:=3 },{},{ mode:=3 },p7,{ mode:=3 },{ mode:=3 },p4,{},{},p4,p4],[{},{},{ mode:=3 },{ mode:=3 },{},{},{ mode:=3 },{ mode:=3 },p4,p4],[{},{ mode:=3 },p4,{},p4,p4,p4],[{},{ mode:=3 },p4,{},p4,p4,p4],[{},{ mode:=3 },p4,{},p4,p4,p4],[{},{ mode:=3 },p4,{},p4,p4,p4],[{},{ mode:=3 },p4,{},p4,p4,p4],[{},{ mode:=3 },p4,{},p4,p4,p4],[{},{ mode:=3 },p4,{},p4,p4,p4],[{},{ mode:=3 },p4,{},p4,p4,p4],[{},{ mode:=3 },p4,{},p4,p4,p4],[{},{ mode:=3 },p4,{},p4,p4,p4],[{},{ mode:=3 },p4,{},p4,p4,p4],[p4,{ mode:=3 },p4,{},p4,p4,p4],[{},{ mode:=3 },p4,{},p4,p4,p4],[p4,p4,p4,p4,p4,{ cx:=[true,false,true] },p4,p4,p4,{ cx:=[true,false,true] },p4,p4,p4,{ cx:=[true,false,true] },p4,p4,p4,{ cx:=[true,false,true] },p4,p4,p4,{ cx:=[true,false,true] },p4,p4,p4,{ cx:=[true,false,true] },p4,p4,p4,{ cx:=[true,false,true] },p4,p4,p4,{ cx:=[true,false,true] },p4,p4,p4,{ cx:=[true,false,true] },p4,p4,p4,{ cx:=[true,false,true] },p4,p4,p4,{ cx:=[true,false,true] },p4,p4,p4,{ cx:=[true,false,true] },p4,p4,p4,{ cx:=[true,false,true] },p4,p4,p4,{ cx:=[true,false,true] },p4,p4,p4,{ cx:=[true,false,true] },p4,p4,p4,{ cx:=[true,false,true] },p4,p4,p4,{ cx:=[true,false,true] },p4,p4,p4,{ cx:=[true,false,true] },p4,p4,p4,{ cx:=[true,false,true] },p4,p4,p4,{ cx:=[true,false,true] },p4,p4,p4,{ cx:=[true,false,true] },p4,p4,p4,{ cx:=[true,false,true] }],[],[p4,p4,p4,p4,p4,{ cx:=[true,false,true] },p4,p4,p4,{ cx:=[true,false,true] },p4,p4,{},{ mode:=3 },{ mode:=3 },p4,{ cx:=[true,false,true] },p4,p4,{},{ mode:=3 },{},{ mode:=3 },{},{ mode:=3 },{ cx:=[true,true,true] },{ mode:=3 },{ mode:=3 },p4,{ cx:=[true,false,true] },p4,p4,p4,{ cx:=[true,false,true] },p4,p4,{},{ mode:=3 },{ mode:=3 },p4,{ cx:=[true,false,true] },p4,p4,p4,{ cx:=[true,false,true] },p4,p4,{},{ mode:=3 },{ mode:=3 },p4,{ cx:=[true,false,true] },p4,p4,{},{ mode:=3 },{ mode:=3 },p4,{ cx:=[true,false,true] }],[],[p4,p4,{ mode:=3 },p4,{},p4,p4,p4],[p4,p4,p4,p4,p4,p7,p4,p4,p4,{ mode:=3 },p4,p7,p4]] }
def Mn:c':={ ops:=[[p4],[{},{ mode:=3 },p4,{},p4,p4,p4],[p4,p4],(p9 [0,1,1]),(p9 [1,0,0,1]),(p9 [0,1,1,1]),[],[{},p4,{ mode:=6 },p4],[],[],[{},p4],[],[],[{},p4,{},{ cx:=[false,true] }],[{},p4,{ cx:=[false,true] },p4,p4],[],[p4,p4,{ cx:=[false,true] },p4],[p4,p4],[{},{},p4,p4,{ mode:=3 },p4,{},p4,p4,p4],[{},p4],[p4],[],[{},p4,{},{ cx:=[false,true] }],[{},p4,{ mode:=3 },p4,{},p4,p4,p4],(p9 [1,1,2]),[],[p4,p4],[p4,p4],(p9 [1,1,1,1])],hW:=[(1,(DX false [1,1,5,1,2,1,28,3,40])),(3,(DX false [7,1,5,1,1,1,47,3,16]))] }
def Mo:c':={ ops:=[[p4],[{},{ mode:=3 },p4],[p4,{ mode:=3 },{},{},p4],(p9 [0,1,1]),[{},p4],[],[],(p9 [0,0,2]),(p9 [1,1,1]),[{},{},p7,p4,p4,p4,p4,{},{},p7,p4,p4,{},p4,p4,p7,{ cx:=[false,false,true] },p4,{},{},p7,p4,p4,p4,{ cx:=[false,false,true] },p4,{},{},p7,p4,p4,p4,{ cx:=[false,false,true] }],[],[],(p9 [0,0,2]),(p9 [1,1,1]),[{},{},p7,{},{},p7,p4,p4,{ mode:=3 }],[],[],(p9 [0,0,2]),(p9 [1,1,1]),[{},{},{},p4,p7,p4,{ mode:=3 },{},{},{},p7,p4,{ mode:=3 },p7],[],[{},{},p4,p4,{ mode:=3 },{},{},p4,p4,p7,p4,{ mode:=3 },p4,p4]],hW:=[(0,(DX false [1,2,4,2,94])),(2,(DX false [1,2,4,1,1,1,93])),(4,(DX false [1,2,4,1,2,1,92]))] }
def Uc:c':={ ops:=[[p4],[{},p4],[{},p4,p4,{ mode:=3 },p4,p4,{},p4,p4,p4,{ cx:=[true,false,true] },p4],[],[p4,p4,p4,{ mode:=6 },p4],[],[]] }
def Qg:c':={ ops:=[[p4],[{},p4,p4,p4,{},p4,p4,{ cx:=[true,false,true] },p4,{},p4,p4,p4,{ cx:=[true,false,true] }],[],[],(p9 [0,0,1,1,2]),(p9 [1,1,1]),[{},p4,{},p7,p4,{},{ cx:=[false,true] }],[{},p4,p4,p4,{},p4,{},p4,p7,{ cx:=[true,false,true] },p4,{},p4,p4,{ cx:=[true,false,true] },p4,p4,p4,{},p4,p7,{ cx:=[true,false,true] }],[],[]],hW:=[(0,(DX false [1,1,1,1,49]))] }
def Ud:c':={ ops:=[[p4],[{},{},{ mode:=3 },p4,{},{},p4,p4,p4,p4],(p9 [0,1,1]),[p4,p4],(p9 [1,1,1,1,1,2,1]),[],(p9 [1,1,2,1]),[],[]] }
def Ue:c':={ ops:=[[p4],[{},{},{ mode:=3 },p4,{},{},p4,p4,p4,p4],[{},p4],[p4,p4],(p9 [1,1,1,1,1,2]),[],(p9 [1,1,2]),[],[]] }
def Qi:c':={ ops:=[[],(p9 [0,1,1]),[],(p9 [0,0,1,2]),(p9 [1,1,1]),(p9 [1,0,0,2,1,1,2,1]),(p9 [1,1,1])],hW:=[(0,(DX false [0,1,2,2,17]))] }
def abh:c':={ ops:=[[p4],[{},{ mode:=3 },p4],[{},p4],(p9 [1,0,1]),[],[],[],(p9 [0,1,1]),[{},{},{ mode:=3 },p4,{},{},p4,p4,p4,p4],[{},p4],(p9 [1,0,1]),[p4],[],[{},p4,{},{ cx:=[false,true] }],[{},{},p4,{},p4,{ cx:=[true,true,true] },p4,p4,p4,p7,p4],[p4,p4],[p4,p4],[{ cx:=[true],mode:=1 },{ cx:=[false,true],mode:=1 }],[{},{},{ cx:=[false,true],mode:=1 },p4,{},p4,p7,p4],[],(p9 [1,1,1,1,1,2,1]),[],(p9 [1,1,1])],hW:=[(0,(DX false [1,2,4,1,12,3,50])),(2,(DX false [1,2,4,1,12,3,13,3,34]))] }
def NZ:c':={ ops:=[[p4],[{},{ mode:=3 },p4],[p4,{ mode:=3 },{},p4],[],[],(p9 [0,0,1,2]),(p9 [1,1,1]),[{},{},{},p7,p4,{ mode:=3 },p4,{},{},{},p4,p4,p4],[{},p4],(p9 [1,0,1]),(p9 [1,0,0,2,1,2,1]),[],(p9 [0,0,1,2]),(p9 [1,1,1]),[{},{},p7,{},{},p7,p4,p4,{ mode:=3 }],[],(p9 [1,1,1,1,1,2]),[],(p9 [1,1,1])],hW:=[(0,(DX false [1,2,3,2,57])),(2,(DX false [1,2,3,1,4,1,53]))] }
def abi:c':={ ops:=[[p4],[p4,{ mode:=3 },p4,{},p4,p4,p4],[{},p4],(p9 [1,0,1]),[{},p4,{ mode:=3 },{ mode:=3 },p4],[{},p4,{ cx:=[false,true] },p4],(p9 [0,1,2]),[p4,p4]] }
def abj:c':={ ops:=[[p4],[p4,{ mode:=3 },p4,{},p4,p4,p4],[{},p4],(p9 [1,0,1]),[{},p4,{ mode:=3 },{ mode:=3 },p4]] }
def abl:c':={ ops:=[[p4],[{},{ mode:=3 },p4,{},p4,p4,p4],[{},p4],(p9 [1,0,1]),[],[p4,p4],[],[{},{},p4,{},p4,{ cx:=[false,true] }],[{},{},p4,{},{ mode:=3 },{},{ cx:=[false,true] }],(p9 [1,1,2,1,1]),(p9 [1,1,1,2,1]),[p4,p4],[p4,p4]],hW:=[(0,(DX false [4,1,1,1,12,3,20]))] }
def abm:c':={ ops:=[[],(p9 [0,1,0,1,2]),[],[],(p9 [0,0,1,2]),(p9 [1,1,1]),(p9 [0,0,2,1,0,0,2,1,2]),[],[]],hW:=[(0,(DX false [0,2,3,1,20]))] }
def abn:c':={ ops:=[[],(p9 [0,1,0,1,2]),[],[],(p9 [0,0,1,2]),(p9 [1,1,1]),[{},{},p7,p4,{},{},p7,p4,{ mode:=3 },p4],[],[]],hW:=[(0,(DX false [0,2,3,1,21]))] }
def Uf:c':={ ops:=[[p4],[p4,{ mode:=3 },p4,{},p4,p4,p4],[{},p4],(p9 [1,0,1]),[p4,{ mode:=3 },p4,p4]] }
def Ug:c':={ ops:=[[p4],[{},{ mode:=3 },p4],[p4,{ mode:=3 },{},p4],[p4,{ mode:=3 },p4]] }
def Uh:c':={ ops:=[[p4],[{},{ mode:=3 },p4,{},p4,p4,p4],(p9 [0,1,1]),(p9 [1,0,1]),(p9 [1,1,1,1,1]),[],[{},{ mode:=3 },p4,p4,p4],[],[p4,{ mode:=3 },p4]] }
def IF:c':={ ops:=[[p4],[{},{ mode:=3 },p4],[p4,{ mode:=3 },{},p4],[],[],(p9 [0,0,1,1,2]),(p9 [1,1,1]),(p9 [1,0,1,2,1]),[],[],(p9 [0,1,1]),[],[],(p9 [0,0,1,2]),(p9 [1,1,1]),[],[{},p4],(p9 [1,1,1]),[{},{},p7,p4,{},p7,{},{ cx:=[false,true] }],[{},p4,p4,p4,{},p4,p4,{},{},{},{ mode:=3 },p7,{ cx:=[false,false,true] },{ cx:=[false,true] },p4,{},{},{},p4,{ mode:=3 },{},{},{ mode:=3 },{ mode:=3 },{ cx:=[false,true] }],(p9 [1,1,1,2,1]),(p9 [0,1,1]),[p4,p4],[p4,{},p4,p4,p4,p7,p4,{},p4,p4,p4,{ mode:=3 },{},{},p4,p4,{ mode:=3 },p4,p4,p4],[p4,p4]],hW:=[(0,(DX false [1,1,2,2,92])),(2,(DX false [1,1,2,1,1,2,90])),(4,(DX false [1,1,2,1,1,4,88])),(6,(DX false [1,1,2,1,1,5,87]))] }
def Ui:c':={ ops:=[[p4],[{},{ mode:=3 },p4,{},p4,p4,p4],[p4,p4],[],[p4,{ mode:=3 },{},p4,p4,p4]] }
def Uj:c':={ ops:=[[p4],[{},{ mode:=3 },p4],[p4,{ mode:=3 },{},p4],[{},{ mode:=3 },p4],[],[p4,{ mode:=3 },p4]] }
def Uk:c':={ ops:=[[p4],[p4,{ mode:=3 },p4,{},p4,p4,p4],[{},p4],(p9 [1,0,1]),[p4,{ mode:=3 },p4]] }
def Ul:c':={ ops:=[[p4],[{},{ mode:=3 },p4,{},p4,p4,p4],[{},p4],(p9 [1,0,1]),[p4,{},{ mode:=3 },p4],[],[p4,p4]] }
def Qj:c':={ ops:=[[],(p9 [0,1,0,1,2]),[],[],(p9 [0,0,1,2]),(p9 [1,1,1]),(p9 [0,0,2,1,0,0,2,1,2]),[],[]],hW:=[(0,(DX false [0,2,3,1,20]))] }
def Um:c':={ ops:=[[p4],[{},{ mode:=3 },p4],[{},p4,p4,p4,{ mode:=3 },p4,p4,p7],[],[p4,p4]] }
def abo:c':={ ops:=[[p4,p4],[{},{ mode:=3 },p4,{},p4,{},{ cx:=[false,true] },p4],(p9 [0,1,1]),(p9 [1,0,1]),[p4,p4,p4,{},{},p7,{ mode:=3 },p4,p4,{},{},p7,{ cx:=[true,false,true] },p4],[],[{},{},{ mode:=3 },{},{ cx:=[false,true] }],[{},{ cx:=[false,true] },p4,p4],[],[{ mode:=1 }],(p9 [0,0,2]),[{},{},{ mode:=3 }],[{},{ cx:=[false,true] }],[p4,{},{ mode:=3 },p4,{},p4,p4,p4],[{},{ cx:=[false,true] },p4,{},{ cx:=[false,true] },p4,p4,p7],[{ mode:=1 },p4,p4,p7,p4,p7,p7],[p4,p4]],hW:=[(1,(DX false [2,1,1,1,3,1,1,2,60]))] }
def abp:c':={ ops:=[[],[],[],[],[],[],[],[],[],[],[],[],[],[],[{},{},{ mode:=3 },p4,p4,{},p4,p4,p4,{},{},{},p4,p4,p7,p4,{ mode:=3 },{},{},{ mode:=3 },p7,{ cx:=[false,false,true] },{ cx:=[false,true] }],[],[],[],[],[],[],(p9 [1,0,0,2,1,1,2,1,0,0,2,1,1,2,1,1])] }
def Ql:c':={ ops:=[[p4],[{},p4,p4,{},{ cx:=[false,true] }],[],(p9 [0,0,1,2]),(p9 [1,1,1]),[{},{ cx:=[true],mode:=1 },{},p4,{},{},p7,p4,p7,p4,p4,p7,{},p7],[p4,{ cx:=[false,true] }]],hW:=[(0,(DX false [1,2,1,3,23]))] }
def abq:c':={ ops:=[[],[p4,p4]] }
def abr:c':={ ops:=[[],[],[],[],[],[p4,{},{},p7,p4,p4,{},{},p7,p4,p4,{ cx:=[false,true] },p7,p4,p7,p4]] }
def Qm:c':={ ops:=[[p4],[{},p4,{ cx:=[false,true] },p4],[],(p9 [0,0,1,1,2]),(p9 [1,1,1]),(p9 [0,0,1,0,2,1,1,0,1,1,2,2]),(p9 [0,0,1,0,2,1,1,0,1,1,2,2]),[p4,p4]],hW:=[(0,(DX false [1,1,1,2,33]))] }
def abt:c':={ ops:=[[],[],[],[],[],[],[],[],[],[],[],[],(p9 [0,1,0,2,1,1,0,1,0,2,1,1,1,1]),[],(p9 [0,0,2,1,0,0,2,1,2,1])] }
def Un:c':={ ops:=[[p4,p4],(p9 [0,1,1]),(p9 [1,1,1,1,2,1,1,1]),(p9 [1,1,1,1,2,1,1,1])] }
def abu:c':={ ops:=[[],[{},{ mode:=3 },{ cx:=[false,true] }]] }
def abv:c':={ ops:=[[],[{},{ mode:=3 },{ cx:=[false,true] }]] }
def abw:c':={ ops:=[[],[{},{ mode:=3 },{ cx:=[false,true] }]] }
def abx:c':={ ops:=[[],[],[],(p9 [0,1,0,1,2]),(p9 [1,1,1]),(p9 [1,0,0,2,1,0,0,1,2,1,2,1,2,1]),[p4,p4]],hW:=[(0,(DX false [0,1,2,2,21]))] }
def aby:c':={ ops:=[[],[p4,p4]] }
def abz:c':={ ops:=[[],[p4,p4]] }
def Uo:c':={ ops:=[[p4],[{},{ mode:=3 },p4],[{},p4],(p9 [1,0,1]),[p4,p4,{ cx:=[true],mode:=1 },p4]] }
def Up:c':={ ops:=[[p4],[p4,p4,p4,p4,{},p4,p4,{ mode:=3 },p4,p4,p4,p4,p4,{ mode:=3 },p4,{ cx:=[true,false,true] },p4]] }
def Uq:c':={ ops:=[[p4,p4],[p4,p7,{ mode:=6 },p4,p4]] }
def Ur:c':={ ops:=[[],[p4,p4,{ mode:=6 },p4,p4]] }
def Us:c':={ ops:=[[p4],[p4,p4,p4,p4,p4,{},p4,p7,p4,{},{ cx:=[false,true] }],(p9 [1,1,1]),(p9 [0,1,0,1,1,1]),(p9 [0,1,0,1,1,1])] }
def Qn:c':={ ops:=[[],[],(p9 [0,0,1,2]),(p9 [1,1,1]),(p9 [0,0,2,1,1,0,2]),[],[]],hW:=[(0,(DX false [0,2,3,1,13]))] }
def Ut:c':={ ops:=[[p4,p4],(p9 [0,1,1]),(p9 [1,1,1,1,2,1,1,1]),(p9 [1,1,1,1,2,1,1,1])] }
def Uu:c':={ ops:=[[p4],[p4,p4,p4,{},p4,p4,p4,p7,{ mode:=3 },p4,p4]] }
def Uv:c':={ ops:=[[],[p4,p4,{ mode:=6 },p4,p4]] }
def Uw:c':={ ops:=[(p9 [0,1,1]),[p4,{},p4,p4,{ mode:=3 },{ cx:=[false,true,false,true,true],mode:=1 }]] }
def abB:c':={ ops:=[[],[{ cx:=[true],mode:=1 },p4,p4],[p4,p4],[],(p9 [0,0,1,2]),(p9 [1,1,1]),(p9 [0,0,2,1,0,0,1,2,1,2]),(p9 [0,0,2,1]),[],(p9 [0,0,1,2]),(p9 [1,1,1]),(p9 [0,0,2,1,0,0,1,2,1,2]),(p9 [0,0,0,0,2,1,2,2]),(p9 [1,1,1]),(p9 [0,0,2,1]),(p9 [1,1,2,1]),[p4,p4]],hW:=[(0,(DX false [0,1,2,1,57])),(2,(DX false [0,1,2,3,55]))] }
def Ux:c':={ ops:=[[],[{},p4],[],(p9 [0,1,2,1])] }
def N1:c':={ ops:=[[],[],[p4],[],(p9 [0,1,1]),[{},p4,p4,p4,p4,{},p7,p4,p4,{},p4,p4,{ cx:=[false,true] },p7],[{},p4,p4,p4,p4,p4,p7,p4,p4,{},p4,p4,{ cx:=[false,true] },p7],[p4,p4],(p9 [0,0,2]),[],[],[p4],[],(p9 [0,0,1,1]),(p9 [1,1,1]),[{},{},p4,p4,p4,{ cx:=[true,true,true] },p4,p4,p7,p4],[p4,p4],[p4,p4]],hW:=[(0,(DX false [0,1,4,1,5,3,52])),(2,(DX false [8,1,38,2,17]))] }
def Qo:c':={ ops:=[[],[],(p9 [1,1,1,1,1,1]),[],[{},p4],(p9 [1,1,1,2,1]),[p4,p4],[p4,p4]],hW:=[(0,(DX false [3,1,6,2,8]))] }
def Qp:c':={ ops:=[[p4],[],[p4,{ mode:=3 },p4],[],(p9 [0,0,1,2]),(p9 [1,1,1]),(p9 [0,0,2,1,1,1]),(p9 [1,0,1,2,1]),[p4,p4]],hW:=[(0,(DX false [3,3,19]))] }
def Ll:c':={ ops:=[[p4],[{ cx:=[true],mode:=1 }],[p4],[],[{},p4,{},{ cx:=[false,true] }],[{},p4],(p9 [1,1,1]),[],[],(p9 [0,1,1]),[{},{},{ mode:=6 }],(p9 [1,1,2,1]),[p4,p4],[{ cx:=[true],mode:=1 },{ cx:=[false,true],mode:=1 }],[p4,p4,{ cx:=[false,true,true],mode:=1 },{ cx:=[true],mode:=2 },p4,{ cx:=[true,true],mode:=1 },p4],[p4,p4],[{},{ cx:=[false,true],mode:=1 }],[{ cx:=[true],mode:=2 },p4]],hW:=[(0,(DX false [2,1,2,1,6,3,31])),(2,(DX false [2,1,2,1,2,2,2,3,6,3,22]))] }
def abD:c':={ ops:=[[],[],[],[],[],[],[],[],[],[],[],(p9 [0,0,2,1,0,0,1,0,2,1,1,2,1,2])] }
def abE:c':={ ops:=[[p4,p4],[],[],[],[{},p4],[p4,{ cx:=[false,true] },p4],[p4,p4],[{},{ cx:=[false,true] },p4],[p4,p4,{},{ cx:=[false,true] }],(p9 [0,1,1]),[{},p4,p4,{},{ cx:=[false,true] }],[{ mode:=1 },p4,{ cx:=[false,true] }],[{},{},{ mode:=3 }],[{},{ cx:=[false,true] }],[p4,{},{ mode:=3 },p4,{},p4,p4,p4],[p4,p4,p4,p7,p4,{},{ cx:=[false,true] },p4,p4,p7],[{},p4,{ cx:=[false,true] },p4,p4,p7,p7],[{ mode:=1 },p4,p4,p7,p7],[p4,{ cx:=[false,true] }]],hW:=[(0,(DX false [1,1,1,1,1,3,6,1,48])),(2,(DX false [3,1,1,3,1,1,53]))] }
def abF:c':={ ops:=[[],[],(p9 [0,0,1,0,2,1,1,2,1,0,0,1,0,2,1,1,2,1,2,1])] }
def Jy:c':={ ops:=[[],[],[{},{},{ mode:=3 },{ mode:=3 }],[],[{},p4,{},{ cx:=[false,true] }],[{},p4,p4,p4,p4,p4,p4,{},{ cx:=[false,true] }],[],[],(p9 [0,1,1]),[{},p4,{ cx:=[true],mode:=1 },{},p4,p4,p4,p4,p4,p7,p4,p4,p7,{},p4,p7],[p4,p4],[{},{},{ mode:=3 },p4],[],(p9 [0,1,0,1,2]),(p9 [1,1,1]),[{},p4,{ cx:=[true],mode:=1 },{},{},p7,p4,{},{},p4,p7,p4,p7,p4,p7,{},p4,p7],[{ mode:=7 },p4],[{},{},{ mode:=6 },p4],[{},p4],[{},{},p4,p7,{},{},p4,p7,p7,{ mode:=3 },p4],[],[p4],[],[{},p4,{},{ cx:=[false,true] }],(p9 [0,1,0,1,2]),(p9 [1,0,0,1,2,1,0,1,2,1,2,1]),(p9 [1,1,1,2,1]),[p4,p4],(p9 [0,1,1]),(p9 [1,1,1,2,1]),[p4,p4],[p4,p4]],hW:=[(0,(DX false [0,1,2,1,15,3,111])),(2,(DX false [0,1,2,1,1,2,12,3,10,3,98])),(4,(DX false [0,1,2,1,1,2,2,2,8,3,111])),(6,(DX false [0,1,2,1,1,1,7,1,5,3,75,3,33]))] }
def Qq:c':={ ops:=[[p4],[],[{},{ mode:=3 },p4],[],(p9 [0,0,1,2]),(p9 [1,1,1]),[p4,{},{},{},p7,p4,{ mode:=3 },{ mode:=3 },p4,p4,{ cx:=[false,true] },p7,p4],[p4,p4]],hW:=[(0,(DX false [1,1,1,3,21]))] }
def abG:c':={ ops:=[[],[],[{},{ mode:=3 },{ cx:=[true],mode:=1 }],[],(p9 [0,1,1]),[],[],[],[{},p4,{},{ cx:=[false,true] }],[{},{},{},{ cx:=[false,true,true],mode:=1 },{ cx:=[true],mode:=2 }],[],[],[{},p4],[{},p4,p7,{},{ cx:=[false,true] }],[{},{},{ mode:=3 },p4,{},p4,p4,p4],[{},p4,p4,p4,{},p7,{ cx:=[true,false,true] },p4,{},{},p4,{ mode:=3 },p7],(p9 [1,1,1,2,1]),[p4,p4],[p4,p4],(p9 [0,1,1]),[p4,p4],[p4,{ mode:=3 },{},{ cx:=[false,true] }],(p9 [1,0,1,2,1]),[p4,{},{ cx:=[false,true,true],mode:=1 },p4],[{},p4,{ mode:=3 },p4,{},p4,p4],[p4,p4]],hW:=[(0,(DX false [0,1,2,3,75])),(2,(DX false [0,1,2,4,13,3,58])),(4,(DX false [0,1,2,4,1,2,10,3,7,1,50]))] }
def Uy:c':={ ops:=[[p4],[{},{ mode:=3 },p4],[p4,{ mode:=3 },p4],(p9 [0,1,1,1]),[],[p4,{ mode:=3 },p4],[],[]] }
def Uz:c':={ ops:=[[p4],[p4,{},{ mode:=3 },{},{ cx:=[false,true] }],(p9 [1,1,1]),[],[{},{ mode:=3 },p4],[{},{ mode:=3 },p4,p4,p4,p4,{ mode:=3 },{},p7,p4,p4,p7,p4,{},p4,p4,p4,{},p4,p4,p4,{},p4,p4,{},p7,p4,p4,p4,p4,p4,p7,{ cx:=[true,false,true] },p7,{ cx:=[true,false,true] },p7,p4]] }
def Qt:c':={ ops:=[[],[],[],(p9 [0,0,1,2]),(p9 [1,1,1]),(p9 [0,0,2,1,0,2]),(p9 [1,0,0,2,1,1,2,1]),[p4,p4]],hW:=[(0,(DX false [0,2,3,2,20]))] }
def UA:c':={ ops:=[[p4,p4],[p7,p4]] }
def abI:c':={ ops:=[[],[],[],[],[],[],[],[],[],[],[],[{},{},{},p7,{},p4,p7,{},{},{ mode:=3 },{},{},p4,{ mode:=3 },p4,{},{},p4,p4]] }
def abJ:c':={ ops:=[[],[p4,p4,{},{ cx:=[false,true] }],[],(p9 [0,1,0,1,2]),(p9 [1,1,1]),[{},{ cx:=[true],mode:=1 },{},{},p7,p4,{},{},p4,p7,p4,p7,p4,p7,{},p7],[p4,{ cx:=[false,true] }]],hW:=[(0,(DX false [1,1,2,3,25]))] }
def UB:c':={ ops:=[[],[p4,p4,{ mode:=6 },p4,p4]] }
def UC:c':={ ops:=[[],[{},p4,p7,p4,p4,p4,p7,{ cx:=[true,false,true] },p4]] }
def Qu:c':={ ops:=[[],[{},p4],[],[{},p4],[{},{},{},p7,p4,{ mode:=6 }],[p4,p4],[p4,p4],[]],hW:=[(0,(DX false [0,2,5,2,10]))] }
def Qv:c':={ ops:=[[],[{},p4],[],[{},p4],[{},{},{},p7,p4,{ mode:=6 }],[p4,p4],[p4,p4],[]],hW:=[(0,(DX false [0,2,5,2,10]))] }
def UD:c':={ ops:=[[],[],(p9 [0,0,2,1]),[{},p4],[p4,p4,p4,{ cx:=[false,true,true,true],mode:=1 }],[{},p4],[p4,p4,p4,{ cx:=[false,true,true,true],mode:=1 }],[{},p4],[{},{},{},{ cx:=[false,true,true,true],mode:=1 }],(p9 [1,1,1]),[{},{},{},{ cx:=[false,true,true,true],mode:=1 },p4,{},p4,p4,p4],[{},p4],[{},{},{},{ cx:=[false,true,true,true],mode:=1 }],(p9 [0,1,1,0,2,2,1]),[],(p9 [0,1,0,2,1,1,1,2]),[{},{},{},{ cx:=[false,true,true,true],mode:=1 }],[{},p4,p4,{},{},p4,p7,p4,{},{},p7,p4,{ mode:=3 },p4,{ cx:=[false,true] }],[{},p4,{},p4,{ cx:=[false,true,true,true,true],mode:=1 },p4],[p4,p4],[{},{},{},p4,{ cx:=[false,true,true,true,true],mode:=1 },p4,{},p4,p4,p4],[p4,p4],(p9 [0,0,2,0,0,2,1,1]),(p9 [1,1,1]),(p9 [0,0,2]),(p9 [1,1,2,1]),[{},p4,{},{},{ cx:=[false,true,true,true,true],mode:=1 }],(p9 [1,1,1]),(p9 [1,1,2,1]),[{},{},p4,p4,{},{ cx:=[false,true,true,true,true],mode:=1 }],[p4,p4]],hW:=[(0,(DX false [0,4,4,2,124]))] }
def abK:c':={ ops:=[[],[p4,p4,{ mode:=3 },p4],[p4,{ mode:=3 },p4]] }
def UE:c':={ ops:=[[],[p4,p7,{ mode:=6 },p4]] }
def UF:c':={ ops:=[[],[p4,p4,p4,{ mode:=3 },p4]] }
def TU:c':={ bad:=true,ops:=[[],[{},p4,p4,p4,p4,p4,p7,p4,{},p4,p4,p4,{ cx:=[true],mode:=3 },p4,p7,{ cx:=[true],mode:=3 },{},{},{ cx:=[false,true] },{ cx:=[false,true] }],[{},p4,{},p4,p7,p4,{},p4,{},p4,p7,{ cx:=[true,false,true] },p4,{},p4,{},p4,p7,{ cx:=[true,false,true] },p4,p4,p4,p4,p4,p7,{ cx:=[true,false,true] },p4]] }
def aaN:c':={ ops:=[[],(p9 [0,0,0,1]),[{},p4],[p4,{ cx:=[true],mode:=4 }],(p9 [0,1,1]),(p9 [0,0,1,2]),(p9 [1,1,1]),(p9 [0,0,2,1,1]),(p9 [0,0,0,1]),(p9 [0,0,1,2,2]),(p9 [1,1,1]),(p9 [0,0,2,1]),[p4,p4,p7,{ cx:=[true],mode:=4 }]],hW:=[(0,(DX false [0,2,3,2,35]))] }
def TV:c':={ ops:=[(p9 [0,1,1]),[p4,{},p4,p4,{ mode:=3 },p4,{ cx:=[false,true,false,true,true,true],mode:=1 }]] }
def TW:c':={ ops:=[[],(p9 [1,1,1,1,1,1,2,1])] }
def Ka:c':={ ops:=[[p4],[{},{},{ cx:=[false,true] }],(p9 [0,1,1,1,1,1]),[],[{},p4],(p9 [0,0,1,0,0,1,2,2]),[p4,p4],[{ cx:=[true],mode:=1 }],[{},p4,p4,p4,p4,p4,p4,p4,{},{ cx:=[false,true] }],(p9 [0,1,1]),[{},{},{ mode:=3 }],[{},{ cx:=[false,true] }],(p9 [0,0,2,1]),(p9 [0,0,2]),[p4,{},p4,{},p4,{ cx:=[false,true] },p7,p7],[{ mode:=5 },{},p4,{ cx:=[true,true],mode:=1 },p7],[p4,p4,{ mode:=3 },p4,{},p4,p7],(p9 [0,1,1]),[{},{},p4,p4,p7,p4,{},{ cx:=[false,true] }],[{ mode:=5 },{},p4,p4,p7,{ cx:=[false,true] }],[p4,{},p4,{ cx:=[true,true],mode:=1 },p4],[{},p4,{ mode:=3 },p4,{},p4,{ cx:=[false,true] }],[{},{ cx:=[false,true],mode:=1 }],[{ cx:=[true],mode:=2 },p4]],hW:=[(0,(DX false [1,1,1,1,13,2,73])),(2,(DX false [1,1,1,1,1,4,83]))] }
def TX:c':={ ops:=[[p4],(p9 [1,1,1,1,2,1])] }
def NY:c':={ ops:=[[],[],[],[],(p9 [0,1,1]),(p9 [1,1,1,2,1]),[{},p4],[{},p4],[p4,p4],(p9 [1,0,1]),[p4],[],(p9 [0,1,1]),(p9 [1,1,2,1]),[p4,p4],[p4,p4]],hW:=[(0,(DX false [0,1,2,1,5,3,24])),(2,(DX false [6,1,18,3,8]))] }
def TY:c':={ ops:=[[],[{ cx:=[true],mode:=1 },{},{ mode:=6 },p4],[{},p4],[p4,p4],(p9 [0,1,1]),(p9 [0,0,1,2]),(p9 [1,1,1]),(p9 [0,0,2,1,1]),[{},{},{ mode:=6 },p4],(p9 [0,0,1,2,2]),(p9 [1,1,1]),(p9 [0,0,2,1]),(p9 [1,1,2,1])],hW:=[(0,(DX false [0,2,3,2,35]))] }
def TZ:c':={ ops:=[[],(p9 [1,1,2,1])] }
def T0:c':={ ops:=[[p4,p4],[{},p4],[{},{},{ mode:=3 },p4],(p9 [0,1,1,1]),[],[{},p4,p4,p4,{},p4,p4,p4,p4,p4,{ mode:=3 },p4,p7,{ cx:=[true,false,true] },p4,{},p4,{ mode:=6 },p4,{ cx:=[true,false,true] },p4],[],[p4,p4,{ mode:=3 },p4,p4,p4]] }
def Qd:c':={ ops:=[[],[{},p4,p4,{},{ cx:=[false,true] }],[p4,p4],[],[{},p4,{},{ cx:=[false,true] }],[{},{},{},{ mode:=6 }],[p4,{ cx:=[false,true] }],[p4,p4],[p4,{ cx:=[false,true] }]],hW:=[(0,(DX false [1,1,2,2,6,3,10]))] }
def T1:c':={ ops:=[[p4,p4],(p9 [1,1,1,1,2,1])] }
def T2:c':={ ops:=[[],(p9 [1,1,1,2,1])] }
def T3:c':={ ops:=[(p9 [0,1,1,1,1,1]),[],[{},p4],[],[],[{},p4],[{},p4,p7,{},{ cx:=[false,true] }],[{},{},{ mode:=3 },p4,{},p4,p4,p4],[p4,{},p7,p4,{},p4,{ cx:=[true,true],mode:=1 },p4,p7],[p4,p4],[p4,p4]],hW:=[(0,(DX false [0,3,11,2,25])),(2,(DX false [0,3,1,1,9,2,2,1,22]))] }
def Qe:c':={ ops:=[[],[{},p4],[],[{},p4],[{},{},{},p7,p4,{ mode:=6 }],[p4,p4],[p4,p4],[]],hW:=[(0,(DX false [0,2,5,2,10]))] }
def T4:c':={ ops:=[(p9 [0,1,1]),(p9 [0,0,2]),(p9 [1,1,1]),[{},p4],[{},{},p7,p4,{},{},p7,p4,{},{},p4,p7,p4,{ mode:=3 },{ cx:=[false,true] }],(p9 [1,1,1]),(p9 [0,0,0,0,1,0,0,1,2,1,0,0,2,1,2,2,2,2])],hW:=[(0,(DX false [0,3,3,1,42])),(2,(DX false [0,3,3,2,41]))] }
def aaQ:c':={ ops:=[[],[],[],[],[],[],[],[],[],[],(p9 [0,0,0,0,0,2,0,0,0,2,2,1,0,0,2,1,2,2,2,2])] }
def aaR:c':={ ops:=[[],[],[],[],[],[],[],[],[],[],(p9 [0,0,0,0,0,2,0,0,0,2,2,1,0,0,2,1,2,2,2,2])] }
def aaS:c':={ ops:=[[],[],[],(p9 [0,0,0,0,0,0,2,1,0,0,2,1,2,2,2,2])] }
def aaU:c':={ ops:=[[],[],[],[],[],[{},{},p7,p4,{},{},p7,p4,{},{},p4,p7,p4,{ mode:=3 },p4,{ cx:=[false,true] }],[],[],[],[],[],(p9 [0,0,0,0,1,0,0,1,2,1,0,0,2,1,2,2,2,2]),[],[],[],[],[{},{},p7,p4,{},{},p4,p7,p4,{ mode:=3 },p4],(p9 [0,0,0,0,1,0,0,1,2,1,0,0,2,1,2,2,2,2]),[],[],[],[],[{},{},p7,p4,{},{},p4,p7,p4,{ mode:=3 },p4],(p9 [0,0,0,0,1,0,0,1,2,1,0,0,2,1,2,2,2,2])] }
def T5:c':={ ops:=[[],[{},{ mode:=3 },p4,{},{ mode:=3 },p4,p7,p4,p4,p4,p7,{ cx:=[true,false,true] },p4]] }
def aaV:c':={ ops:=[[],(p9 [0,0,0,0,0,0,2,1,0,0,2,1,2,2,2,2]),[],[{},{},p7,p4,{},{},p7,p4,{},{},p7,p4,{ mode:=3 },p4,{ cx:=[false,true] }],[],[{},{},p7,p4,{},{},p7,p4,{},{},p7,p4,{ mode:=3 },{ cx:=[false,true] }],[],[],(p9 [0,0,0,0,0,0,2,1,0,0,2,1,2,2,2,2])] }
def aaW:c':={ ops:=[[],(p9 [0,0,0,0,0,0,2,1,0,0,2,1,2,2,2,2]),[],[{},{},p7,p4,{},{},p7,p4,{},{},p7,p4,{ mode:=3 },{ cx:=[false,true] }],[],[{},{},p7,p4,{},{},p7,p4,{},{},p7,p4,{ mode:=3 },p4,{ cx:=[false,true] }],[],[],(p9 [0,0,0,0,0,0,2,1,0,0,2,1,2,2,2,2]),[],(p9 [0,0,0,0,0,0,2,1,0,0,2,1,2,2,2,2]),[],[],[{},{},p7,p4,{},{},p7,p4,{},{},p7,p4,{ mode:=3 },{ cx:=[false,true] }],[],[{},{},p7,p4,{},{},p7,p4,{},{},p7,p4,{ mode:=3 },p4,{ cx:=[false,true] }],[],[],(p9 [0,0,0,0,0,0,2,1,0,0,2,1,2,2,2,2]),[],[],(p9 [0,0,0,0,0,0,2,1,0,0,2,1,2,2,2,2])] }
def aaX:c':={ ops:=[[],[{},p4],(p9 [1,1,1]),[],[{},p4],(p9 [1,1,1]),(p9 [1,1,1]),[p4,p4,p4,{ cx:=[false,true] },p4,p7,p4]] }
def aaY:c':={ ops:=[[],[{},p4],(p9 [1,1,1]),[],[{},p4],(p9 [1,1,1]),(p9 [1,1,1]),[{},p4],(p9 [1,1,1]),(p9 [1,1,1]),[p4,p4,p4,{ cx:=[false,true] },p4,p7,p4]] }
def T6:c':={ ops:=[[],[{},p4],[],[{},p4],[{},{},{},p7,p4,{ mode:=6 }],[p4,p4],[p4,p4],[]],hW:=[(0,(DX false [0,2,5,2,10]))] }
def T7:c':={ ops:=[[],[],(p9 [0,0,2,1]),[{},p4],[p4,p4,p4,p4,{ cx:=[false,true,true,true,true],mode:=1 }],[{},p4],[p4,p4,p4,p4,{ cx:=[false,true,true,true,true],mode:=1 }],[{},p4],[{},{},{},{},{ cx:=[false,true,true,true,true],mode:=1 }],(p9 [1,1,1]),[{},{},{},{},{ cx:=[false,true,true,true,true],mode:=1 },p4,{},p4,p4,p4],[{},p4],[{},{},{},{},{ cx:=[false,true,true,true,true],mode:=1 }],(p9 [0,1,1,0,2,2,1]),[],(p9 [0,1,0,2,1,1,1,2]),[{},{},{},{},{ cx:=[false,true,true,true,true],mode:=1 }],[{},p4,p4,{},{},{},p4,p7,p4,{},{},p7,p4,{ mode:=6 },p4,p4,{ cx:=[false,true] }],[{},p4,{},p4,{},{ cx:=[false,true,true,true,true,true],mode:=1 },p4],[p4,p4],[{},{},{},p4,{},{ cx:=[false,true,true,true,true,true],mode:=1 },p4,{},p4,p4,p4],[p4,p4],(p9 [0,0,2,0,0,2,1,1]),(p9 [1,1,1]),(p9 [0,0,2]),(p9 [1,1,2,1]),[{},p4,{},{},{},{ cx:=[false,true,true,true,true,true],mode:=1 }],(p9 [1,1,1]),(p9 [1,1,2,1]),[{},{},p4,p4,{},{},{ cx:=[false,true,true,true,true,true],mode:=1 }],[p4,p4]],hW:=[(0,(DX false [0,5,5,2,136]))] }
def T8:c':={ ops:=[(p9 [0,1,1,0,1]),(p9 [0,0,2]),(p9 [1,1,1,1,1,1]),(p9 [0,0,0,0,0,0,2,1,0,0,2,1,2,2,2,2])],hW:=[(0,(DX false [0,1,1,2,24]))] }
def aaZ:c':={ ops:=[[],[{},p4],[{},p4],(p9 [1,0,1,0,1,2,2,1]),[{},p4],(p9 [0,0,1,2,1,2,1,1,2,1]),[p4,p4]] }
def T9:c':={ ops:=[[],[{},p4,p4,p4,p4,{},p7,p4,p4,{},p7,p4,{},p4,p4,p4,p4,{},p7,p4,p4,{},p7,{ cx:=[false,false,true] },p4]] }
def T_:c':={ ops:=[[],[p4,p4,{ mode:=3 },p4,p4]] }
def aa1:c':={ ops:=[[],[],[],[{},p4,{},p7,p4,{},{},{},p7,p7,p4,{},{},{},p7,p4,p7,p4,{ mode:=3 },{ cx:=[false,true] }],[],[{},{},{},p7,p7,p4,{},{},{},p7,p7,p4,{ mode:=3 },p4],(p9 [0,0,0,2,0,0,0,2,0,0,0,2,2,1,0,0,0,2,2,1,2,2,2,2])] }
def aa2:c':={ ops:=[[],(p9 [0,0,1,0,1,1,1,2,0,2]),(p9 [0,0,1,0,1,1,1,2,0,2]),(p9 [0,0,1,0,1,1,1,2,0,2])] }
def T':c':={ ops:=[[],(p9 [0,1,2,1])] }
def Ua:c':={ ops:=[(p9 [0,1,1]),(p9 [0,0,2]),(p9 [1,1,1]),[{},p4],[{},{},p7,p4,{},{},{},p7,p4,{},{},p4,p7,p4,{ mode:=6 },p4,{ cx:=[false,true] }],(p9 [1,1,1]),(p9 [0,0,0,0,1,0,0,1,2,1,0,0,2,1,2,2,2,2])],hW:=[(0,(DX false [0,4,4,1,44])),(2,(DX false [0,4,4,2,43]))] }
def aa3:c':={ ops:=[[],[],[],[],[],[],[],[],[],[],(p9 [0,0,0,0,0,2,0,0,0,2,2,1,0,0,2,1,2,2,2,2])] }
def aa5:c':={ ops:=[[],[],[],[],[],[],[],[],[],[],(p9 [0,0,0,0,0,2,0,0,0,2,2,1,0,0,2,1,2,2,2,2])] }
def aa6:c':={ ops:=[[],[],[],(p9 [0,0,0,0,0,0,2,1,0,0,2,1,2,2,2,2])] }
def aa7:c':={ ops:=[[],[],[],[],[],[{},{},p7,p4,{},{},{},p7,p4,{},{},p4,p7,p4,{ mode:=6 },p4,p4,{ cx:=[false,true] }],[],[],[],[],[],(p9 [0,0,0,0,1,0,0,1,2,1,0,0,2,1,2,2,2,2]),[],[],[],[],[{},{},{},p7,p4,{},{},p4,p7,p4,{ mode:=6 },p4,p4],(p9 [0,0,0,0,1,0,0,1,2,1,0,0,2,1,2,2,2,2]),[],[],[],[],[{},{},{},p7,p4,{},{},p4,p7,p4,{ mode:=6 },p4,p4],(p9 [0,0,0,0,1,0,0,1,2,1,0,0,2,1,2,2,2,2])] }
def aa8:c':={ ops:=[[],(p9 [0,0,0,0,0,0,2,1,0,0,2,1,2,2,2,2]),[],[{},{},p7,p4,{},{},{},p7,p4,{},{},p7,p4,{ mode:=6 },p4,p4,{ cx:=[false,true] }],[],[{},{},p7,p4,{},{},{},p7,p4,{},{},p7,p4,{ mode:=6 },p4,{ cx:=[false,true] }],[],[],(p9 [0,0,0,0,0,0,2,1,0,0,2,1,2,2,2,2])] }
def aa9:c':={ ops:=[[],(p9 [0,0,0,0,0,0,2,1,0,0,2,1,2,2,2,2]),[],[{},{},p7,p4,{},{},{},p7,p4,{},{},p7,p4,{ mode:=6 },p4,{ cx:=[false,true] }],[],[{},{},p7,p4,{},{},{},p7,p4,{},{},p7,p4,{ mode:=6 },p4,p4,{ cx:=[false,true] }],[],[],(p9 [0,0,0,0,0,0,2,1,0,0,2,1,2,2,2,2]),[],(p9 [0,0,0,0,0,0,2,1,0,0,2,1,2,2,2,2]),[],[],[{},{},p7,p4,{},{},{},p7,p4,{},{},p7,p4,{ mode:=6 },p4,{ cx:=[false,true] }],[],[{},{},p7,p4,{},{},{},p7,p4,{},{},p7,p4,{ mode:=6 },p4,p4,{ cx:=[false,true] }],[],[],(p9 [0,0,0,0,0,0,2,1,0,0,2,1,2,2,2,2]),[],[],(p9 [0,0,0,0,0,0,2,1,0,0,2,1,2,2,2,2])] }
def Qf:c':={ ops:=[[],[{},p4],[],[{},p4],(p9 [0,0,0,2,1,2]),[p4,p4],[p4,p4],[]],hW:=[(0,(DX false [0,2,5,2,10]))] }
def aa_:c':={ ops:=[[],[{},{},p7,p4,{},{},p7,p4,{ mode:=3 }]] }
def abb:c':={ ops:=[[],[],[],[{},p4,{},p7,p4,{},{},{},{},p7,p7,p4,{},{},{},p7,p4,p7,p4,{ mode:=6 },p4,{ cx:=[false,true] }],[],[{},{},{},{},p7,p7,p4,{},{},{},p7,p7,p4,{ mode:=6 },p4,p4],(p9 [0,0,0,2,0,0,0,2,0,0,0,2,2,1,0,0,0,2,2,1,2,2,2,2])] }
def abe:c':={ ops:=[[],[p4,{},{},p7,p4,{},{},p7,p4,{ mode:=6 },p4]] }
def abL:List c':=[{},{},abg,abk,{},Qk,{},abA,abC,abH,aaM,aaP,aaT,aa0,aa4,abd,Ub,abf,Mn,Mo,Uc,Qg,Ud,Ue,Qi,abh,NZ,abi,{},abj,{},abl,{},abm,abn,Uf,Ug,Uh,IF,Ui,Uj,Uk,Ul,Qj,Um,abo,{},{},{},{},abp,Ql,abq,{},abr,Qm,abt,Un,abu,abv,abw,abx,aby,abz,Uo,Up,Uq,Ur,Us,Qn,Ut,Uu,Uv,Uw,abB,Ux,N1,Qo,Qp,Ll,abD,abE,abF,Jy,Qq,abG,Uy,Uz,Qt,UA,abI,abJ,UB,UC,Qu,Qv,UD,abK,UE,UF,TU,aaN,TV,TW,Ka,TX,NY,TY,TZ,T0,Qd,T1,T2,T3,Qe,T4,aaQ,aaR,{},aaS,aaU,T5,aaV,aaW,aaX,aaY,T6,T7,T8,aaZ,T9,T_,aa1,{},aa2,{},{},T',Ua,aa3,aa5,{},aa6,aa7,aa8,aa9,Qf,aa_,abb,{},{},abe]
def jg (k:FuncId):c':=abL.getD k {}
end Go.Proofs.YtfakoboiahbhaaaGreat.Ab


namespace Go.Proofs.YtfakoboiahbhaaaGreat.Ab
open Go
end Go.Proofs.YtfakoboiahbhaaaGreat.Ab


namespace Go.Proofs.YtfakoboiahbhaaaGreat.Ab
open Go
end Go.Proofs.YtfakoboiahbhaaaGreat.Ab


namespace Go.Proofs.YtfakoboiahbhaaaGreat.Ab
open Go
theorem dD:Go.Proofs.Tryz.prog.follows .mixedOrders=true:=by kernel_rfl
abbrev qC (k:FuncId) (args:List I) (v:I):Prop:=kW Go.Proofs.Tryz.prog k args v
abbrev hG (n:Int):I:=.int .i64 n
abbrev rz:I:=.junk
abbrev B (b:Bool):I:=.bool b
def i' (l:List Int):I:=.ax (l.map hG) l.length .shared
def h' (l:List (List Int)):I:=.ax (l.map i') l.length .shared
theorem WI (d:Nat) (l:List Int):(l.map hG).all (cl (d+1))=true:=by
 rw [List.all_eq_true];intro u hu;obtain ⟨x,_,rfl⟩:=List.mem_map.1 hu;rfl
theorem WH (d:Nat) (l:List Int):cl (d+2) (i' l)=true:=WI d l
theorem RQ (d:Nat) (l:List (List Int)):(l.map i').all (cl (d+2))=true:=by
 rw [List.all_eq_true];intro u hu;obtain ⟨x,_,rfl⟩:=List.mem_map.1 hu;exact WH d x
theorem afU (d:Nat) (l:List (List Int)):cl (d+3) (h' l)=true:=RQ d l
theorem M6 (k:IntKind) (n:Int):cl 8 (.int k n)=true:=rfl
theorem Nc (b:Bool):cl 8 (.bool b)=true:=rfl
theorem M7 (l:List Int) (n:Nat) (c:h9):cl 8 (.ax (l.map hG) n c)=true:=WI 6 l
theorem M9 (l:List (List Int)) (n:Nat) (c:h9):cl 8 (.ax (l.map i') n c)=true:=RQ 5 l
theorem M8 (l:List Int):cl 8 (i' l)=true:=WH 6 l
theorem M_ (l:List (List Int)):cl 8 (h' l)=true:=afU 5 l
theorem Nd (k:FuncId):cl 8 (.func k [] [])=true:=rfl
theorem Nf (n:Nat) (c:h9):cl 8 (.ax [] n c)=true:=rfl
theorem JN (l:List (List Int)) (n:Nat) (c:h9):cl 8 (.agg [.ax (l.map i') n c])=true:=by
 show [I.ax (l.map i') n c].all (cl 7)=true;rw [List.all_cons,List.all_nil,Bool.and_true];exact RQ 4 l
theorem M' (l:List (List Int)):cl 8 (.agg [h' l])=true:=JN l _ _
theorem Na (l:List (List Int)):cl 8 (.bT [h' l])=true:=JN l _ _
theorem Nb (l:List (List Int)) (n:Nat) (c:h9):cl 8 (.bT [.ax (l.map i') n c])=true:=JN l _ _
theorem afv {α:Type} (f:α→I) (l:List α) (i:Nat) (h:i<l.length) {K:I→Prop} (k:K (f l[i])):eJ ((l.map f).drop (i*1)) 0 K :=
 Dj (x:=f l[i]) (by simp [h]) k
theorem rW (i:Nat) (h:i≤9223372036854775806):IntKind.i64.wrap ((i:Int)+1)=((i+1:Nat):Int):=by rw [IntKind.wrap_i64];omega
theorem Ib (n:Int) (ad:-9223372036854775808≤n) (af:n≤9223372036854775807):IntKind.i64.wrap n=n:=by rw [IntKind.wrap_i64];omega
theorem WG:∀ {d:Nat} {v:I},cl d v=true→cl (d+1) v=true
 | 0,v,h=>by simp [cl] at h
 | d+1,v,h=>by
   have key:∀ {l:List I},l.all (cl d)=true→l.all (cl (d+1))=true:=fun h=>by
    rw [List.all_eq_true] at h ⊢;exact fun u hu=>WG (h u hu)
   cases v <;> simp only [cl,Bool.and_eq_true,Bool.false_eq_true] at h ⊢ <;> first | trivial | exact key h | exact ⟨key h.1,key h.2⟩
theorem Hj {p:Prop} [Decidable p] {A C:Prop} (ad:p→A) (af:¬ p→C):(match decide p with | true=>A | false=>C):=by
 by_cases h:p
 ·simp only [h,decide_true];exact ad h
 ·simp only [h,decide_false];exact af h
theorem F7 {k:FuncId} {xs:List I} {v:I}:∀ p∈([]:dM),p.1=k→p.2.1=xs→p.2.2=v:=fun _ h=>by simp at h
theorem Fl {k k':FuncId} {xs ys:List I} {v bu:I} (h:k'=k→ys=xs→bu=v):∀ p∈([(k',ys,bu)]:dM),p.1=k→p.2.1=xs→p.2.2=v:=fun p aD=>by
 simp only [List.mem_singleton] at aD;subst aD;exact h
theorem rH {k:FuncId} {xs:List I} {v:I} {acc:dM} (h:acc.all (fun p=>p.1 != k)=true):∀ p∈acc,p.1=k→p.2.1=xs→p.2.2=v:=fun p aD e=>by
 have:=List.all_eq_true.1 h p aD;simp [e] at this
def sg (cap:List I):Prop:=cap.all (cl 7)=true∧∀ u∈cap,∃ cs,u=.bT cs
theorem sg.Lk {cap:List I} (h:sg cap):cap.all (cl 8)=true:=by
 have ad:=h.1;rw [List.all_eq_true] at ad ⊢;exact fun u hu=>WG (ad u hu)
theorem sg.h6 {cap:List I} (h:sg cap) (H:List au):cap.map (h6 H)=cap:=by
 conv=>rhs;rw [←List.map_id cap]
 apply List.map_congr_left;intro u hu;obtain ⟨cs,rfl⟩:=h.2 u hu;rfl
theorem sg.hz {cap:List I} (h:sg cap) (H:List au):cap.map (hz H)=cap:=by
 conv=>rhs;rw [←List.map_id cap]
 apply List.map_congr_left;intro u hu;obtain ⟨cs,rfl⟩:=h.2 u hu;rfl
theorem sg.cm {cap:List I} (h:sg cap):cap.map I.cm=cap:=by
 conv=>rhs;rw [←List.map_id cap]
 apply List.map_congr_left;intro u hu;obtain ⟨cs,rfl⟩:=h.2 u hu;rfl
theorem sg.fn {cap:List I} (h:sg cap) (H:List au) (k:FuncId):Ab.h6 H (.func k [] cap)=.func k [] cap:=by
 simp only [Ab.h6,h.hz,List.map_nil]
theorem sg.M4 {cap:List I} (h:sg cap) (k:FuncId):cl 8 (.func k [] cap)=true:=by
 show (([]:List I).all (cl 7) && cap.all (cl 7))=true;rw [h.1];rfl
theorem sg.nil:sg []:=⟨rfl,by simp⟩
section
variable {P:Program}
theorem call6 {k:FuncId} {xs bs:List I} {H:List au} {lo:Nat} {v:I} (ag:(xs.map (h6 H)).map I.cm=bs) (aD:(xs.map (h6 H)).all (cl 8)=true) (h:kW P k bs v) (ai:f' v=true):n2 P 6 lo (.fn k) xs H v.cm H:=by
 subst ag;refine ⟨kz (.fn k) ((xs.map (h6 H)).map I.cm) [] 0 v [],Dp h.1,?_⟩;simp only [eP,aD,Dn,Option.bind_some,ox h.2,ai]
end
theorem Vj {H:List au} {id d:Nat} {l:List I} (h:H[id]?=some (.cells l)) (aD:(l.map I.view).all (cl d)=true):bK H 0 H.length 0 (d+1) (.ptr id 0)=some (.bT (l.map I.view)):=by
 have ad:=(List.getElem?_eq_some_iff.1 h).1;have af:dY (bK H 0 H.length 0 d) (l.map I.view)=some (l.map I.view):=y3 fun u hu=>ox (by rw [List.all_eq_true] at aD;exact aD u hu);simp only [bK,Nat.not_lt_zero,if_false,h,List.drop_zero,af,Option.map_some];rw [if_neg (by omega)]
def idxOf {α:Type} (p:α→Bool):List α→Nat→Int
 | [],_ => -1
 | x::l,i=>if p x=true then i else idxOf p l (i+1)
end Go.Proofs.YtfakoboiahbhaaaGreat.Ab


namespace Go.Proofs.YtfakoboiahbhaaaGreat.Ab
open Go
section
variable {P:Program}
theorem QK (dD:P.follows .mixedOrders=true) {k:Nat} {A:c'} {rc:eM} {n:Nat} {ts:List ja} (aq:yQ P A k=some (rc,n,ts)) {lo:Nat} {args T:List I} {H H':List au} (bW:args++List.replicate (n-args.length) .junk=T) {v:I} (o4:a_ lo H H')
  (h:dB P A k lo none rc T H fun e gk H1=>(e=.normal∨e=.ret)∧iZ H1 H'∧(jN H1 gk ts).map g9=some v):Sem P (.fn k) args H lo v H':=by
 unfold yQ at aq;split at aq
 ·rename_i f aN;split at aq
  ·rename_i c ag;split at aq
   ·rename_i FU E2 ad af aH bh;simp only [Option.some.injEq,Prod.mk.injEq] at aq;obtain ⟨rfl,rfl,rfl⟩:=aq;subst bW;refine F0 dD aN ag (by simpa using af) ad o4 (kR (fun e s bl=>?_) (pB aH h));obtain ⟨cn,cp,ed⟩:=bl;simp only [Option.map_eq_some_iff] at ed;obtain ⟨vs,ed,il⟩:=ed;exact ⟨cn,cp,vs,by rw [pO _ _ bh,ed],il⟩
   ·cases aq
  ·cases aq
 ·cases aq
end
theorem G0 {P:Program} (dD:P.follows .mixedOrders=true) {k:Nat} {A:c'} {rc:eM} {n:Nat} {ts:List ja} (aq:yQ P A k=some (rc,n,ts)) {lo:Nat} {args T:List I} {H H':List au} (bW:args++List.replicate (n-args.length) .junk=T) {v:I} (o4:a_ lo H H')
  (h:∀ Q:cC→List I→List au→Prop,(∀ e gk H1,(e=.normal∨e=.ret)∧iZ H1 H'∧(jN H1 gk ts).map g9=some v→Q e gk H1)→dB P A k lo none rc T H Q):Sem P (.fn k) args H lo v H' :=
 QK dD aq bW o4 (h _ fun _ _ _ h=>h)
theorem HI {P:Program} {A:c'} {fn:FuncId} {lo:Nat} {rl:Option Nat} {c:eM} {T:List I} {H:List au} {K:cC→List I→List au→Prop} (h:∀ fc:cC→List I→List au→Prop,(∀ e T H,K e T H→fc e T H)→dB P A fn lo rl c T H fc):dB P A fn lo rl c T H K:=h K fun _ _ _ h=>h
theorem G9 {P:Program} {lo:Nat} {b1:eZ} {xs:List I} {H H':List au} {v:I} (h:Sem P b1 xs H lo v H'):n2 P 1 lo b1 xs H v H' :=
 ⟨kz b1 xs H lo v H',Dp h,by simp only [eP,Dn]⟩
theorem Xl {P:Program} {k:FuncId} {args:List I} {v:I} (cu:args.all (cl 8)=true) (h:kW P k args v) (H:List au):Sem P (.fn k) args H H.length v H:=by
 obtain ⟨⟨_,ad,af⟩,aD⟩:=h
 exact ⟨a_.refl _ _,ad,fun B U J S w vs ah aP ae=>CallsIn.mono (af B _ [] S w vs (yq ah) (fun b i h=>by obtain ⟨_,_,h⟩:=k3 h;cases h) (ae.pure cu)) fun e w' he=>by
  cases e with
  | returned v=>exact zi ah (ox (n:=0) aD) he
  | panicked c=>exact he.elim
  | outgrown=>exact he.elim⟩
theorem ab0 {P:Program} {k:FuncId} {args:List I} {v:I} (cu:args.all (cl 8)=true) (h:kW P k args v) (H:List au) (lo:Nat):n2 P 0 lo (.fn k) args H v H :=
 ⟨_,Dp (Xl cu h H),by simp only [eP,Dn,Option.bind_some,ox h.2,Option.map_some]⟩
theorem qU {X Z:List au} {j:Nat} {o:au} (h:X[j]?=some o):(X++Z)[j]?=some o:=by
 rw [List.getElem?_append_left (List.getElem?_eq_some_iff.1 h).1];exact h
theorem rK (X:List au) (c dP:au):(X++[c]).set X.length dP=X++[dP]:=by simp
theorem IK (X:List au) (c:au):(X++[c])[X.length]?=some c:=by simp
end Go.Proofs.YtfakoboiahbhaaaGreat.Ab


namespace Go.Proofs.YtfakoboiahbhaaaGreat.Ab
open Go
def p':Nat:=18446744073709551616
theorem ru {n:Nat} (h:n≤9223372036854775808):n<p':=by unfold p';omega
def qd (p:Prop) [Decidable p] {aU:Type} (k:Option aU):Option aU:=if p then k else none
theorem qD {p:Prop} [Decidable p] {aU:Type} {k:Option aU} {v:aU} (h:qd p k=some v):p∧k=some v:=by
 unfold qd at h;split at h
 ·exact ⟨by assumption,h⟩
 ·cases h
theorem qp {p:Prop} [Decidable p] {aU:Type} {k:Option aU} (h:p):qd p k=k:=if_pos h
theorem qi {α aU:Type} {x:Option α} {f:α→Option aU} {v:aU} (h:x.bind f=some v):∃ a,x=some a∧f a=some v:=by
 cases x with
 | none=>cases h
 | some a=>exact ⟨a,rfl,h⟩
theorem r4 {b:Bool} {aU:Type} {x y:Option aU} {v:aU} (ag:b=true) (h:(if b=true then x else y)=some v):x=some v:=by
 rw [if_pos ag] at h;exact h
theorem r5 {b:Bool} {aU:Type} {x y:Option aU} {v:aU} (ag:b=false) (h:(if b=true then x else y)=some v):y=some v:=by
 rw [if_neg (by rw [ag];decide)] at h;exact h
theorem Hu (b:Bool):b=true∨b=false:=by cases b <;> simp
def ix {α:Type} [Inhabited α] (l:List α) (i:Int):α:=l.getD i.toNat default
theorem rn {α:Type} [Inhabited α] {l:List α} {k:Nat} (h:k<l.length):ix l (k:Int)=l[k]:=by
 simp [ix,h]
theorem OC {α:Type} [Inhabited α] {l:List α} {i:Int} (h:0≤i∧i<(l.length:Int)):ix l i=l[i.toNat]'(by omega):=by
 have:i.toNat<l.length:=by omega
 simp [ix,this]
abbrev w (n:Int):Int:=IntKind.i64.wrap n
theorem ait {n:Int} (ad:-9223372036854775808≤n) (af:n≤9223372036854775807):w n=n:=Ib n ad af
theorem q3 {aU:Type} {v:aU} {G:Prop} (h:(none:Option aU)=some v):G:=by cases h
def aaG {α:Type} (f:α→I) (l:List α):I:=.ax (l.map f) l.length .shared
def q_ {α:Type} (f:α→List I) (l:List α):I:=.ax (l.flatMap f) l.length .shared
theorem rA {α:Type} [Inhabited α] (f:α→I) (l:List α) (n:Int) (h:0≤n∧n<(l.length:Int)):(l.map f).drop (n.toNat*1)=f (ix l n)::(l.drop (n.toNat+1)).map f:=by
 have a4:n.toNat<l.length:=by omega
 rw [Nat.mul_one,←List.map_drop,List.drop_eq_getElem_cons a4,List.map_cons,OC h]
theorem qQ {α:Type} [Inhabited α] (f:α→List I) (s:Nat) (ai:∀ x,(f x).length=s):∀ (l:List α) (n:Int),0≤n∧n<(l.length:Int)→(l.flatMap f).drop (n.toNat*s)=f (ix l n)++(l.drop (n.toNat+1)).flatMap f:=by
 have key:∀ (l:List α) (k:Nat) (h:k<l.length),(l.flatMap f).drop (k*s)=f l[k]++(l.drop (k+1)).flatMap f:=by
  intro l
  induction l with
  | nil=>intro k h;simp at h
  | cons x l a9 =>
    intro k h;cases k with
    | zero=>simp
    | succ k =>
      (have av:k<l.length:=by simpa using h);(have e:(k+1)*s=(f x).length+k*s:=by rw [ai,Nat.add_mul,Nat.one_mul,Nat.add_comm]);rw [List.flatMap_cons,e,List.drop_length_add_append,a9 k av];rfl
 intro l n h;rw [key l n.toNat (by omega),OC h]
theorem r9 {α:Type} (f:α→List I) (s:Nat) (ai:∀ x,(f x).length=s) (l:List α):(l.flatMap f).length=l.length*s:=by
 induction l with
 | nil=>simp
 | cons x l a9=>rw [List.flatMap_cons,List.length_append,a9,ai,List.length_cons,Nat.add_mul,Nat.one_mul,Nat.add_comm]
theorem abP {α:Type} (f:α→I) (l m:List α) (c:h9):I.ax (l.map f++m.map f) (l.length+m.length) c=.ax ((l++m).map f) (l++m).length c:=by
 rw [List.map_append,List.length_append]
theorem Ii {α:Type} (f:α→I) (l:List α) (x:α) (c:h9):I.ax (l.map f++[f x]) (l.length+1) c=.ax ((l++[x]).map f) (l++[x]).length c:=by
 rw [List.map_append,List.length_append];rfl
theorem F_ {α:Type} (f:α→List I) (l:List α) (x:α) (c:h9):I.ax (l.flatMap f++f x) (l.length+1) c=.ax ((l++[x]).flatMap f) (l++[x]).length c:=by
 simp [List.flatMap_append]
theorem UG {α:Type} (f:α→List I) (l m:List α) (c:h9):I.ax (l.flatMap f++m.flatMap f) (l.length+m.length) c=.ax ((l++m).flatMap f) (l++m).length c:=by
 simp [List.flatMap_append]
theorem ahb {α:Type} (f:α→I) (l:List α) (n:Int) (h:0≤n∧n≤(l.length:Int)) (c:h9):I.ax ((l.map f).take (n.toNat*1)) n.toNat c=.ax ((l.take n.toNat).map f) (l.take n.toNat).length c:=by
 rw [Nat.mul_one,List.length_take,←List.map_take,Nat.min_eq_left (by omega)]
theorem JP {α:Type} [Inhabited α] (f:α→I) (l:List α) (n:Int) (h:0≤n∧n<(l.length:Int)) {K:I→Prop} (k:K (f (ix l n))):eJ (l.map f) (0+n.toNat*1) K:=by
 have a4:n.toNat<l.length:=by omega
 refine Dj (x:=f (ix l n)) ?_ k;rw [Nat.zero_add,Nat.mul_one,List.getElem?_map,List.getElem?_eq_getElem a4,OC h];rfl
theorem JT {α:Type} (f:α→I) (l:List α) (n:Int) (x:α) (h:0≤n∧n<(l.length:Int)) {K:List I→Prop} (k:K ((l.set n.toNat x).map f)):iV (l.map f) (0+n.toNat*1) (f x) K:=by
 have a4:n.toNat<l.length:=by omega
 refine E7 (by simpa using a4) ?_;rw [Nat.zero_add,Nat.mul_one,←List.map_set];exact k
theorem W6 {α:Type} (f:α→I) (x:α):∀ n,eU n [f x]=(List.replicate n x).map f
 | 0=>rfl
 | n+1=>by rw [eU,W6 f x n];rfl
theorem TT {a b:Bool} (h:a=true) (k:b=true):(a && b)=true:=by rw [h,k];rfl
theorem p5 {α:Type} {f:α→Bool} {x:α} {l:List α} (h:f x=true) (k:l.all f=true):(x::l).all f=true:=TT h k
theorem H8 {cs:List I} {d:Nat} (h:cs.all (cl d)=true):cl (d+1) (.agg cs)=true:=h
theorem q' {cs:List I} {d:Nat} (h:cs.all (cl d)=true):cl (d+1) (.bT cs)=true:=h
theorem HX {cs:List I} {d:Nat} (h:cs.all (cl d)=true):cl (d+1) (.tuple cs)=true:=h
theorem Ip {k:FuncId} {a b:List I} {d:Nat} (ad:a.all (cl d)=true) (af:b.all (cl d)=true):cl (d+1) (.func k a b)=true:=TT ad af
theorem rF {α:Type} {f:α→I} {d:Nat} (h:∀ x,cl d (f x)=true) (l:List α) (n:Nat) (c:h9):cl (d+1) (.ax (l.map f) n c)=true:=by
 show (l.map f).all (cl d)=true;rw [List.all_eq_true];intro u hu;obtain ⟨x,_,rfl⟩:=List.mem_map.1 hu;exact h x
theorem q4 {α:Type} {f:α→List I} {d:Nat} (h:∀ x,(f x).all (cl d)=true) (l:List α) (n:Nat) (c:h9):cl (d+1) (.ax (l.flatMap f) n c)=true:=by
 show (l.flatMap f).all (cl d)=true;rw [List.all_eq_true];intro u hu;obtain ⟨x,_,al⟩:=List.mem_flatMap.1 hu;exact List.all_eq_true.1 (h x) u al
theorem WE {α:Type} {f:α→I} {d:Nat} (h:∀ x,cl d (f x)=true) (l:List α):(l.map f).all (cl d)=true:=by
 rw [List.all_eq_true];intro u hu;obtain ⟨x,_,rfl⟩:=List.mem_map.1 hu;exact h x
theorem kW.cm {P:Program} {k:FuncId} {args:List I} {v:I} (h:kW P k args v) (aD:cl 8 v.cm=true):kW P k args v.cm :=
 ⟨⟨h.1.1,h.1.2.1,fun B U J S w vs ah aP ae=>CallsIn.mono (h.1.2.2 B U J S w vs ah aP ae) fun e w' he=>by
   cases e with
   | returned x=>exact a0.cm he
   | panicked c=>exact he.elim
   | outgrown=>exact he.elim⟩,aD⟩
section
variable {P:Program} {B:Nat} {J:List Nat} {w:World} {U:Nat→Option aG} {S:Nat→Nat→Prop}
theorem a0.Yx {H':List au} {r:I} {v:Value} {w':World} (h:a0 B U J S w H' r v w'):a0 B U J S w H' r.settle.view.cm v w':=by
 have ad:a0 B U J S w H' r.settle v w':=by
  cases r with
  | ax c n k=>cases k with
    | uniq z=>exact h.settle
    | _=>exact h
  | _=>exact h
 have af:r.settle.cP=true:=by
  cases r with
  | ax c n k=>cases k <;> rfl
  | _=>rfl
 obtain ⟨bo,ca,bI,a,b,c,d,e⟩:=ad;exact a0.cm ⟨bo,ca,bI,a,b,c,d.view af,aV.b3 (I.c_ _)⟩
theorem afX (dD : P.follows .mixedOrders = true) {k : Nat} {f : Func} {c : Code} (aN : P.funcs[k]? = some f) (ag : f.body = some c) (aP : f.name ≠ "runtime.NumGoroutine") {A : c'} (b0 : codeOk A c = true)
  {args:List I} {v:I} (aD:cl 8 v=true)
  (h:du P A k 0 none c 0 ⟨args++List.replicate (f.ntmps-args.length) .junk,[]⟩ fun e s=>(e=.normal∨e=.ret)∧∃ vs r,fb P s.H s.T f.results.toList=some vs∧bK s.H 0 s.H.length 0 8 (g9 vs)=some r∧r.settle.view.cm=v):kW P k args v:=by
 refine ⟨⟨a_.refl _ _,⟨f,aN,by simp [ag],aP⟩,fun B U J S w xs ah _ ae=>?_⟩,aD⟩;refine callsIn_of_wp_marks aN ag trivial ?_;have aM:=xj ah ae f.ntmps;have c5:=(nT ah).1;refine nW dD c 0 _ _ h b0 Fence.wide _ B w.heap.size J w (hC U) S _ (.inl ⟨rfl,rfl⟩) (fun l a w aK=>aK.elim) aM fun e s av aO w' ai=>?_;obtain ⟨he,vs,r,aj,BS,eb⟩:=av;obtain ⟨b5,cT,a5,aL,aQ,cb⟩:=ai;have iz:LeavesInM Fence.wide 0 P f aO.tmps (fr B U J S w [] v) aO.defers .returning w':=by
  refine nj (U:=b5) (S:=a5) (J:=cT) (B:=B) (H:=s.H) (kV:=U) (S0:=S) (w0:=w) aO.defers w' cb.M.2.1 cb.M.2.2 (c5.trans aQ) cb.H fun bS dj dc lU lV=>?_
  have bW:a7 .slot b5 cT a5 bS s.T aO.tmps.toList:=⟨cb.T.len,fun i u v hu ae=>(cb.T.rel i u v hu ae).mono (Ext.refl _) (fun b o h=>⟨h,dc b o h⟩),fun i u v hu ae =>
   (cb.T.own i u v hu ae).mono (Ext.refl _) (fun b o h=>⟨h,dc b o h⟩) fun b ag=>⟨ag,dj b _ ag,fun _ h=>h⟩⟩
  obtain ⟨x,aW,aX⟩:=pQ lV bW aj;have m6:=pL ah (fun id aE=>by simp at aE) BS (a0.after aL lU aX);refine ⟨x,aW,?_⟩;rw [←eb];exact m6.Yx
 rcases he with rfl | rfl
 ·exact iz
 ·exact iz
end
inductive HZ (rs:List ja) (v:I) (e:cC) (T:List I) (H:List au):Prop where
 | mk (he:e=.normal∨e=.ret) (vs:List I) (aj:jN H T rs=some vs) (r:I) (aN:bK H 0 H.length 0 8 (g9 vs)=some r) (ae:r.settle.view.cm=v)
theorem qN {P:Program} (dD:P.follows .mixedOrders=true) {k:Nat} {A:c'} {rc:eM} {n:Nat} {ts:List ja} (aq:yQ P A k=some (rc,n,ts)) {args T:List I} (bW:args++List.replicate (n-args.length) .junk=T) {v:I} (aD:cl 8 v=true)
  (h:∀ Q:cC→List I→List au→Prop,(∀ e T H,HZ ts v e T H→Q e T H)→dB P A k 0 none rc T [] Q):kW P k args v:=by
 have h:=h _ fun _ _ _ h=>h;unfold yQ at aq;split at aq
 ·rename_i f aN;split at aq
  ·rename_i c ag;split at aq
   ·rename_i FU E2 ad af aH bh;simp only [Option.some.injEq,Prod.mk.injEq] at aq;obtain ⟨rfl,rfl,rfl⟩:=aq;subst bW;have bl:∀ e s,HZ E2 v e (a8.T s) (a8.H s)→(e=.normal∨e=.ret)∧∃ vs r,fb P s.H s.T f.results.toList=some vs∧bK s.H 0 s.H.length 0 8 (g9 vs)=some r∧r.settle.view.cm=v:=fun e s ⟨cn,vs,Bo,r,cp,ed⟩=>by
     exact ⟨cn,vs,r,by rw [pO _ _ bh,Bo],cp,ed⟩
    exact afX dD aN ag (by simpa using af) ad aD (kR bl (pB aH h))
   ·cases aq
  ·cases aq
 ·cases aq
theorem wp_loop {P:Program} {A:c'} {fn:FuncId} {lo:Nat} {rl:Option Nat} {cG:List Bool} {c:eM} {T I8:List I} {H:List au} {Q:cC→List I→List au→Prop} (bW:eL cG T=I8)
  (h:AL (fun T H Q=>nt T fun T=>dB P A fn lo rl c T H fun e bb H'=>match e with
   | .normal=>pv (some cG) bb fun bb=>Q .normal bb H'
   | e=>Q e bb H') I8 H Q):dB P A fn lo rl (.loop (some cG) c) T H Q:=by
 show pv (some cG) T _;rw [CJ];subst bW;exact h
def OJ {α:Type} (f:α→List I):Option α→I
 | none=>.eu
 | some x=>.bT (f x)
theorem WD {α:Type} {f:α→List I} {d:Nat} (h:∀ x,(f x).all (cl d)=true) (x:Option α):cl (d+1) (OJ f x)=true:=by
 cases x with
 | none=>rfl
 | some x=>exact h x
theorem Wa {f:I→Option I}:dY f []=some []:=rfl
theorem V' {f:I→Option I} {x y:I} {l r:List I} (h:f x=some y) (k:dY f l=some r):dY f (x::l)=some (y::r):=by simp only [dY,h,k,Option.map_some]
theorem ag1 {α:Type} {f:α→I} {H:List au} {id n:Nat} {l:List α} {cap:Option Nat} (ah:H[id]?=some (.cells (l.map f))) (aP:n=l.length) (ae:∀ x,(f x).view=f x):rowOf H (.ref id 0 n cap 1)=some (l.map f):=by
 subst aP;simp only [rowOf,ah,Nat.zero_add,Nat.mul_one,List.length_map,Nat.le_refl,if_true,List.drop_zero];rw [List.take_of_length_le (by simp),List.map_map];congr 1;exact List.map_congr_left fun x _=>ae x
theorem acL {α:Type} {f:α→I} {H:List au} {id n d:Nat} {l:List α} {cap:Option Nat} (ah:H[id]?=some (.cells (l.map f))) (aP:n=l.length) (aD:∀ x,cl d (f x)=true) (ae:∀ x,(f x).view=f x):bK H 0 H.length 0 (d+1) (.ref id 0 n cap 1)=some (.ax (l.map f) n (gU cap n)):=by
 have ad:=(List.getElem?_eq_some_iff.1 ah).1;have af:dY (bK H 0 H.length 0 d) (l.map f)=some (l.map f):=y3 fun u hu=>by
  obtain ⟨x,_,rfl⟩:=List.mem_map.1 hu;exact ox (aD x)
 simp only [bK,Nat.not_lt_zero,if_false,ag1 ah aP ae,af,Option.map_some];rw [if_neg (by omega)]
theorem aiu (cs:List I) (n m:Nat) (c:Option Nat):(I.ax cs n (gU c m)).settle.view.cm=.ax cs n .shared:=by
 unfold gU;split
 ·split <;> rfl
 ·rfl
theorem Hv {P:Program} {k:FuncId} {xs cs bs:List I} {H:List au} {lo:Nat} {v:I} (ai:xs.map (h6 H)=cs) (ag:cs.map I.cm=bs) (aD:cs.all (cl 8)=true) (h:kW P k bs v) (ae:f' v=true):n2 P 6 lo (.fn k) xs H v.cm H :=
 call6 (by rw [ai,ag]) (by rw [ai];exact aD) h ae
theorem rp {f:I→I} {x y:I} {l r:List I} (h:f x=y) (k:l.map f=r):(x::l).map f=y::r:=by rw [List.map_cons,h,k]
theorem rT {f:I→I}:([]:List I).map f=[]:=rfl
theorem I0 {H:List au} {k:FuncId} {a b aO ao:List I} (ad:a.map (hz H)=aO) (af:b.map (hz H)=ao):h6 H (.func k a b)=.func k aO ao:=by simp only [h6,ad,af]
theorem HF {H:List au} {id off:Nat} {cs ds:List I} (ah:H[id]?=some (.cells cs)) (he:((cs.drop off).map I.view).map (jU H)=ds):hz H (.ptr id off)=.bT ds:=by simp only [hz,ah,he]
def Hk {α Jt:Type} (g:Jt→α→Option Jt):List α→Jt→Option Jt
 | [],s=>some s
 | x::l,s=>(g s x).bind fun t=>Hk g l t
theorem QL {α Jt:Type} {g:Jt→α→Option Jt}:∀ {l:List α} {s t:Jt},Hk g l s=some t→∃ F:Nat→Jt,F 0=s∧F l.length=t∧∀ (i:Nat) (h:i<l.length),g (F i) l[i]=some (F (i+1))
 | [],s,t,h=>⟨fun _=>s,rfl,Option.some.inj h,fun i hi=>absurd hi (by simp)⟩
 | x::l,s,t,h=>by
   obtain ⟨u,ad,af⟩:=qi h;obtain ⟨F,f1,f2,f3⟩:=QL af;refine ⟨fun i=>match i with | 0=>s | i+1=>F i,rfl,f2,fun i hi=>?_⟩;cases i with
   | zero=>show g s x=some (F 0);rw [f1,ad]
   | succ i=>exact f3 i (by simpa using hi)
def Seq (P:Program) (k:FuncId) (cap:List I) (E:List I):Prop :=
 ∀ (l N:Nat) (rP:Nat→List au),(∀ i,(rP i).length=N)→l<N →
   (∀ (i:Nat) (h:i<E.length) (Y:List au),∃ rL,Sem P (.yield l) [E[i]] (rP i++Y) 0 (.bool true) (rP (i+1)++rL)) →
   ∀ Y,∃ rL,Sem P (.fn k) (.yield l::cap) (rP 0++Y) 0 (.tuple []) (rP E.length++rL)
theorem OE {H X:List au} (h:H.length≤X.length):a_ 0 H X:=⟨h,fun _ h _=>absurd h (by omega)⟩
theorem Xn (X Y:List au) (c d:au):((X++[c])++Y).set X.length d=(X++[d])++Y:=by
 rw [List.append_assoc,List.set_append_right _ _ (Nat.le_refl _)];simp
theorem Ob (X Y:List au) (c:au):((X++[c])++Y)[X.length]?=some c:=by
 rw [List.append_assoc,List.getElem?_append_right (Nat.le_refl _)];simp
theorem agR {α:Type} {P:Program} {A:c'} {fn:FuncId} {rl:Option Nat} {k:FuncId} {cap:List I} {bk:List Nat} {gn bX:Code} {T:List I} {H Mi:List au} {Q:cC→List I→List au→Prop} {f:α→I} {L:List α} (MR:Seq P k cap (L.map f))
  (Obj:Nat→List au) (aT:Obj 0=H) (hlen:∀ i,(Obj i).length=H.length)
  (MQ:∀ (i:Nat) (h:i<L.length) (Y:List au),∃ rL,Sem P (.yield H.length) [f L[i]] ((Obj i++[.loop .ready none fn (T.map I.view) bk gn bX A])++Y) 0 (.bool true) ((Obj (i+1)++[.loop .ready none fn (T.map I.view) bk gn bX A])++rL))
  (gY:inLoop H rl=true) (aP:Obj L.length=Mi) (bz:∀ rL,Q .normal (T.map I.settle) ((Mi++[.dead])++rL)):nH P A fn 0 rl (.func k [] cap) bk gn bX T H Q:=by
 obtain ⟨rL,cg⟩:=MR H.length (H.length+1) (fun i=>Obj i++[.loop .ready none fn (T.map I.view) bk gn bX A]) (fun i=>by simp [hlen]) (by omega) (fun i h Y=>by
  have a4:i<L.length:=by simpa using h
  obtain ⟨rL,aj⟩:=MQ i a4 Y
  exact ⟨rL,by rw [List.getElem_map];exact aj⟩) []
 subst aP;simp only [List.append_nil,List.length_map,aT] at cg;have aq:(Obj L.length).length=H.length:=hlen _;refine ⟨gY,.tuple [],_,.ready,none,fn,T.map I.view,bk,gn,bX,A,cg,by rw [←aq];exact Ob _ _ _,by decide,?_⟩;show Q .normal (T.map I.settle) (((Obj L.length++[au.loop .ready none fn (T.map I.view) bk gn bX A])++rL).set H.length .dead);rw [←aq,Xn];exact bz rL
end Go.Proofs.YtfakoboiahbhaaaGreat.Ab


namespace Go.Proofs.YtfakoboiahbhaaaGreat.Ab
open Go
theorem acH {H:List au} {lo i n d:Nat} {k:FuncId} {a b aO ao:List I} (ad:dY (bK H lo i n d) a=some aO) (af:dY (bK H lo i n d) b=some ao):bK H lo i n (d+1) (.func k a b)=some (.func k aO ao):=by simp only [bK,ad,af]
theorem agS {α:Type} {P:Program} {A:c'} {fn:FuncId} {rl:Option Nat} {k:FuncId} {cap:List I} {t:Nat} {bk:List Nat} {gn bX:Code} {T:List I} {H Mi:List au} {Q:cC→List I→List au→Prop} {f:α→I} {L:List α} (MR:Seq P k cap (L.map f))
  (Obj:Nat→List au) (aw:c1 T t=.func k [] cap) (aT:Obj 0=H) (hlen:∀ i,(Obj i).length=H.length)
  (MQ:∀ (i:Nat) (h:i<L.length) (Y:List au),∃ rL,Sem P (.yield H.length) [f L[i]] ((Obj i++[.loop .ready none fn (T.map I.view) bk gn bX A])++Y) 0 (.bool true) ((Obj (i+1)++[.loop .ready none fn (T.map I.view) bk gn bX A])++rL))
  (gY:inLoop H rl=true) (aP:Obj L.length=Mi) (bz:∀ rL,Q .normal (T.map I.settle) ((Mi++[.dead])++rL)):dB P A fn 0 rl (.zT (.sl t) bk gn bX) T H Q:=by
 show hh T t _;rw [im,aw];exact agR MR Obj aT hlen MQ gY aP bz
end Go.Proofs.YtfakoboiahbhaaaGreat.Ab


namespace Go.Proofs.YtfakoboiahbhaaaGreat.Ab
open Go
theorem acE {α:Type} [Inhabited α] (f:α→List I) (s:Nat) (ai:∀ x,(f x).length=s) (l:List α) (n:Int) (h:0≤n∧n<(l.length:Int)) (j:Nat) (az:j<s):(l.flatMap f)[n.toNat*s+j]?=(f (ix l n))[j]?:=by
 have e:=qQ f s ai l n h
 have:(l.flatMap f)[n.toNat*s+j]?=((l.flatMap f).drop (n.toNat*s))[j]?:=by rw [List.getElem?_drop]
 rw [this,e,List.getElem?_append_left (by rw [ai];exact az)]
theorem agJ {α:Type} [Inhabited α] (f:α→List I) (s:Nat) (ai:∀ x,(f x).length=s) (l:List α) (n:Int) (h:0≤n∧n<(l.length:Int)) (j:Nat) {v:I} (az:(f (ix l n))[j]?=some v) {K:I→Prop} (k:K v):eJ (l.flatMap f) (0+n.toNat*s+j) K:=by
 refine Dj (x:=v) ?_ k;rw [Nat.zero_add,acE f s ai l n h j (by have:=(List.getElem?_eq_some_iff.1 az).1;rw [ai] at this;exact this),az]
theorem agK {α:Type} [Inhabited α] (f:α→List I) (s:Nat) (ai:∀ x,(f x).length=s) (l:List α) (n:Int) (h:0≤n∧n<(l.length:Int)) {v:I} (az:(f (ix l n))[0]?=some v) {K:I→Prop} (k:K v):eJ (l.flatMap f) (0+n.toNat*s) K :=
 agJ f s ai l n h 0 az k
theorem acI {P:Program} {C:cc} {lo id n:Nat} {cap:Option Nat} {o:Oper} {x:Operand} {H:List au} {cs:List I} {sz:Nat} (ar:o.op=.move x) (bF:lo≤id) (ah:H[id]?=some (.cells cs)) (aP:cs.length=n*sz) (ae:∀ u∈cs,u.view=u) :
  a6 P C lo o 2 [.ref id 0 n cap sz] H=some (.ax cs n (gU cap n),H.set id .dead):=by
 unfold a6;rw [ar];show eK P lo 2 o.type x H [.ref id 0 n cap sz]=_;unfold eK;simp only [bF,if_true,rowOf,ah,lenOf,Nat.zero_add];have e:cs.map I.view=cs:=(List.map_congr_left (g:=fun u=>u) ae).trans (List.map_id' cs);rw [if_pos (by omega),List.drop_zero,List.take_of_length_le (by omega),e];rfl
theorem acJ {P:Program} {C:cc} {lo id n m:Nat} {cap:Option Nat} {o:Oper} {x:Operand} {H:List au} {cs:List I} {sz:Nat} (ar:o.op=.move x) (bF:lo≤id) (ah:H[id]?=some (.cells cs)) (Cb:n=m) (aP:cs.length=m*sz) (ae:∀ u∈cs,u.view=u) :
  a6 P C lo o 2 [.ref id 0 n cap sz] H=some (.ax cs m (gU cap m),H.set id .dead):=by
 subst Cb;exact acI ar bF ah aP ae
theorem ah2 {α:Type} {f:α→I} (h:∀ x,(f x).view=f x) (l:List α):∀ u∈l.map f,u.view=u:=fun u hu=>by
 obtain ⟨x,_,rfl⟩:=List.mem_map.1 hu;exact h x
end Go.Proofs.YtfakoboiahbhaaaGreat.Ab


namespace Go.Proofs.YtfakoboiahbhaaaGreat.Ab
open Go
theorem Ia {n:Int} (h:-9223372036854775808≤n∧n≤9223372036854775807):w n=n:=ait h.1 h.2
theorem rq (i:Nat) (h:i≤9223372036854775806):w ((i:Int)+1)=((i+1:Nat):Int):=rW i h
theorem HT {i n:Nat} {aU:Type} {x y:Option aU} (h:i<n):(if (decide ((i:Int)<(n:Int)))=true then x else y)=x:=by rw [if_pos (decide_eq_true (by omega))]
theorem HS {i n:Nat} {aU:Type} {x y:Option aU} (h:¬ i<n):(if (decide ((i:Int)<(n:Int)))=true then x else y)=y:=by rw [if_neg (by rw [decide_eq_true_eq];omega)]
theorem Gt {i n:Nat} {aU:Type} {x:Option aU} (h:i<n):qd (0≤(i:Int)∧(i:Int)<(n:Int)) x=x:=qp ⟨by omega,by omega⟩
end Go.Proofs.YtfakoboiahbhaaaGreat.Ab


namespace Go.Proofs.YtfakoboiahbhaaaGreat.Ab
open Go
def p6 (p:Int×Int):List I:=[hG p.1,hG p.2]
theorem qz (p:Int×Int):(p6 p).length=2:=rfl
theorem Vc {α:Type} (f:α→List I) (s:Nat) (ai:∀ x,(f x).length=s):∀ (l:List α) (k:Nat),k≤l.length→(l.flatMap f).drop (k*s)=(l.drop k).flatMap f
 | l,0,_=>by rw [Nat.zero_mul,List.drop_zero,List.drop_zero]
 | [],k+1,h=>absurd h (by simp)
 | x::l,k+1,h=>by
   (have e:(k+1)*s=(f x).length+k*s:=by rw [ai,Nat.add_mul,Nat.one_mul,Nat.add_comm]);rw [List.flatMap_cons,e,List.drop_length_add_append,Vc f s ai l k (by simpa using h),List.drop_succ_cons]
theorem Vf {α:Type} (f:α→List I) (s:Nat) (ai:∀ x,(f x).length=s):∀ (l:List α) (k:Nat),k≤l.length→(l.flatMap f).take (k*s)=(l.take k).flatMap f
 | l,0,_=>by rw [Nat.zero_mul,List.take_zero,List.take_zero];rfl
 | [],k+1,h=>absurd h (by simp)
 | x::l,k+1,h=>by
   (have e:(k+1)*s=(f x).length+k*s:=by rw [ai,Nat.add_mul,Nat.one_mul,Nat.add_comm]);rw [List.flatMap_cons,e,List.take_length_add_append,Vf f s ai l k (by simpa using h),List.take_succ_cons,List.flatMap_cons]
theorem LM {α:Type} (f:α→List I) (s:Nat) (ai:∀ x,(f x).length=s) (l:List α) (n:Int) (h:0≤n∧n≤(l.length:Int)) (c:h9):I.ax ((l.flatMap f).take (n.toNat*s)) n.toNat c=.ax ((l.take n.toNat).flatMap f) (l.take n.toNat).length c:=by
 rw [Vf f s ai l _ (by omega),List.length_take,Nat.min_eq_left (by omega)]
theorem O5 {α:Type} (f:α→List I) (s:Nat) (ai:∀ x,(f x).length=s) (l:List α) (n:Int) (h:0≤n∧n≤(l.length:Int)) (c:h9):I.ax (((l.flatMap f).drop (n.toNat*s)).take ((l.length-n.toNat)*s)) (l.length-n.toNat) c=.ax ((l.drop n.toNat).flatMap f) (l.drop n.toNat).length c:=by
 rw [Vc f s ai l _ (by omega),List.length_drop,List.take_of_length_le (by rw [r9 f s ai,List.length_drop];exact Nat.le_refl _)]
theorem QG (k:IntKind):∀ (xs ys:List Int),xs.length=ys.length→dC (xs.map (.int k)) (ys.map (.int k))=some (decide (xs=ys))
 | [],[],_=>rfl
 | x::xs,y::ys,h=>by
   simp only [List.map_cons,dC,if_true,QG k xs ys (by simpa using h),Option.map_some];congr 1;by_cases al:x=y <;> by_cases aq:xs=ys <;> simp [al,aq]
 | [],y::ys,h=>by cases h
 | x::xs,[],h=>by cases h
theorem aaJ {P:Program} {t:TypeId} {fs:Array Field} {op:BinOp} (ad:P.underlying t=some (.struct fs)) (af:gB P fs.toList 0=true) (aH:P.stoodInHeld t=false) (bh:fs.size=2) (bM:P.eqGuardType P.depth t=false) (a b c d:Int) (aC:op=.eql∨op=.neq) :
  fe P op t (.agg [hG a,hG b]) (.agg [hG c,hG d])=some (.bool (match op with | .eql=>decide ((a,b)=(c,d)) | _=>!decide ((a,b)=(c,d)))):=by
 unfold fe;simp only [ad];rw [if_pos ⟨af,aH,by simp [bh],by simp [bh],bM⟩];have e:=QG .i64 [a,b] [c,d] rfl;simp only [List.map_cons,List.map_nil] at e;have cd:decide ([a,b]=[c,d])=decide ((a,b)=(c,d)):=by simp
 rcases aC with rfl | rfl <;> simp only <;> rw [show [hG a,hG b]=[I.int .i64 a,I.int .i64 b] from rfl,show [hG c,hG d]=[I.int .i64 c,I.int .i64 d] from rfl,e,Option.map_some,cd]
theorem aaI {P:Program} {t e:TypeId} {len:Nat} {kd:IntKind} (k:IntKind) (ad:P.underlying t=some (.array len e)) (af:P.underlying e=some (.int kd)) (aH:bQ P e=some 1) (bh:P.eqGuardType P.depth t=false) {xs ys:List Int} (al:xs.length=len) (aZ:ys.length=len) :
  fe P .eql t (.agg (xs.map (.int k))) (.agg (ys.map (.int k)))=some (.bool (decide (xs=ys))):=by
 unfold fe;simp only [ad,af,aH];rw [if_pos ⟨by simp [al],by simp [aZ],bh⟩,QG k xs ys (by rw [al,aZ]),Option.map_some]
theorem Wm {P:Program} {C:cc} {lo:Nat} {o:Oper} {op:BinOp} {t u:TypeId} {a b:Operand} {x y v:I} {H:List au} (ar:o.op=.binOp op t a b u) (aP:iE b=false) (h:fe P op t x y=some v):a6 P C lo o 0 [x,y] H=some (v,H):=by
 unfold a6;rw [ar];show (cv P o [x,y]).map _=_;unfold cv;rw [ar];simp only [aP];show (fe P op t x y).map _=_;rw [h];rfl
end Go.Proofs.YtfakoboiahbhaaaGreat.Ab


namespace Go.Proofs.YtfakoboiahbhaaaGreat.Ab
open Go
section
variable {P:Program} {B N:Nat} {J:List Nat} {w:World} {H:List au} {U:Nat→Option aG} {S:Nat→Nat→Prop}
theorem aix (dD:P.follows .mixedOrders=true) {l lo:Nat} {fn:FuncId} {T bb:List I} {bk:List Nat} {gn bX:Code} {an:c'} {args:List I} {H':List au} {id:Nat}
  (aq:H[l]?=some (.loop .ready none fn T bk gn bX an)) (eb:hc bk args T=some bb) (o4:a_ lo H H')
  (h:du P an fn lo (some l) gn 0 ⟨bb,H⟩ fun e s1=>e=.normal∧s1.H[l]?=some (.loop .ready none fn T bk gn bX an) ∧
   du P an fn lo (some l) bX 0 ⟨s1.T,s1.H.set l (.loop .busy none fn T bk gn bX an)⟩ fun e s2=>e=.exit id∧s2.H[l]?=some (.loop .busy none fn T bk gn bX an)∧iZ (s2.H.set l (.loop .done (some (.exit id)) fn T bk gn bX an)) H') :
  Sem P (.yield l) args H lo (.bool false) H':=by
 refine ⟨o4,fun B U J S w xs b ah _ ae ag=>?_⟩;obtain ⟨a',bm,ao,L,aB,aF,aS,bp,bf,bg,cY,c4,dv,fu,n6⟩:=ah.obj l _ aq;rw [ag] at aB;cases aB;have cF:=xf bk args T bb xs L.tmps.toList eb ae.len (by simpa using cY.symm);obtain ⟨cn,cp,ed,il⟩:=cF;refine ⟨L,aS,by rw [←ae.len,←cn,←dv];simp,?_⟩;refine roundIn_of_wpIn trivial ?_;have lL:(hx L xs).toList=(bk.zip xs).foldl (fun (l:List Value) (p:Nat×Value)=>l.set p.1 p.2) L.tmps.toList:=by rw [zV,dv]
 obtain ⟨c5,fA⟩:=Ax bk ah;have aM:cz B w.heap.size (gM bk U) J S w ⟨bb,H⟩ { tmps:=hx L xs,defers:=[] }:=by
  refine ⟨?_,fA,Nat.le_refl _,fun d a2=>by simp at a2,List.Pairwise.nil⟩;simp only [lL];have key:∀ (i:Nat) (u:I) (x:Value),bb[i]?=some u→((bk.zip xs).foldl (fun (l:List Value) (p:Nat×Value)=>l.set p.1 p.2) L.tmps.toList)[i]?=some x →
    Rel J S w u x∧aV (gM bk U) J S w (.slot i) u x:=fun i u x hu al=>by
   rcases il i u x hu al with ⟨aL,aQ⟩ | ⟨j,aL,aQ,ch⟩
   ·obtain ⟨bP,b4⟩:=c4 i u x aL (by simpa using aQ);exact ⟨b4,aV.b3 bP⟩
   ·exact ⟨ae.rel j u x aQ ch,(ae.own j u x aQ ch).mono (Ext.refl J) (fun _ _ h=>⟨h,rfl⟩) fun b ag=>⟨by simp [gM,ag,aL],rfl,fun _ h=>h⟩⟩
  exact ⟨by rw [cp,ed,←cY];simp,fun i u x hu al=>(key i u x hu al).1,fun i u x hu al=>(key i u x hu al).2⟩
 rw [fu,n6];refine nW dD gn 0 _ _ h a' _ _ B w.heap.size J w (gM bk U) S _ (.inr ⟨l,b,rfl,ag,rfl⟩) (fun l a w aK=>aK) aM fun e1 s1 av aB bE ai=>?_;obtain ⟨rfl,hp,af⟩:=av;obtain ⟨b5,cT,a5,aL,aQ,cb⟩:=ai;have eQ:cT[l]?=some b:=aL _ _ ag;obtain ⟨_,_,ao,i',d1,d2,d3,d4,d5,_⟩:=cb.H.obj l _ hp;rw [eQ] at d1;cases d1;obtain ⟨dR,oB⟩:=cb.loop hp eQ d3 .busy none;have oJ:(Instr.beginRound b).run P bE=.ok () (bE.putObj b (.loop { i' with state:=.busy,pending:=none })):=by
  rw [run_beginRound d3 d4]
  have:({ i' with state:=.busy,pending:=none }:Loop)={ i' with state:=.busy }:=by rw [←d5]
  rw [this]
 refine ⟨_,oJ,?_⟩;refine wpIn_mono (Q:=fun cL aO w'=>(∀ t,cL≠Exit.goto t)∧roundPost P b (fr B U J S w H' (.bool false)) cL aO w') ?_ (fun e a w h=>h.2);refine nW dD bX 0 _ _ af bm _ _ B w.heap.size cT _ b5 a5 _ (.inr ⟨l,b,rfl,eQ,rfl⟩) (fun l a w aK=>aK.1 l rfl) oB fun cd s2 av aF bS ai=>?_;obtain ⟨rfl,e7,kc⟩:=av;obtain ⟨bo,ca,bI,ch,lW,lg⟩:=ai;have fi:ca[l]?=some b:=ch _ _ eQ;obtain ⟨_,_,ao,h',f1,f2,f3,f4,f5,_⟩:=lg.H.obj l _ e7;rw [fi] at f1;cases f1;have jk:bj U S w bo bI bS:=((c5.trans aQ).trans dR).trans lW;refine ⟨fun t aw=>(by cases aw),?_⟩;refine ⟨_,_,run_endRound (some (.exit id)) f3,?_⟩;obtain ⟨oo,oC⟩:=lg.loop e7 fi f3 .done (some (.exit id));exact a0.mN kc ⟨bo,ca,bI,aL.trans ch,jk.trans oo,oC.H,.bool _,aV.b3 rfl⟩
theorem ag9 (dD:P.follows .mixedOrders=true) {l lo:Nat} {fn:FuncId} {T bb:List I} {bk:List Nat} {gn bX:Code} {an:c'} {args:List I} {H':List au} {id:Nat} {zq zs:eM}
  (cu:dK P an gn 0=some zq) (ag:dK P an bX 0=some zs)
  (aq:H[l]?=some (.loop .ready none fn T bk gn bX an)) (eb:hc bk args T=some bb) (o4:a_ lo H H')
  (h:dB P an fn lo (some l) zq bb H fun e gk H1=>e=.normal∧H1[l]?=some (.loop .ready none fn T bk gn bX an) ∧
   dB P an fn lo (some l) zs gk (H1.set l (.loop .busy none fn T bk gn bX an)) fun e eN a3=>e=.exit id∧a3[l]?=some (.loop .busy none fn T bk gn bX an)∧iZ (a3.set l (.loop .done (some (.exit id)) fn T bk gn bX an)) H') :
  Sem P (.yield l) args H lo (.bool false) H' :=
 aix dD aq eb o4 (kR (fun e s bl=>⟨bl.1,bl.2.1,pB ag bl.2.2⟩) (pB cu h))
end
theorem SU (X Y:List au) (a b d:au):(((X++[a])++Y)++[b]).set X.length d=(((X++[d])++Y)++[b]):=by
 rw [List.set_append_left _ _ (by simp),Xn]
theorem Oc (X Y:List au) (a b:au):(((X++[a])++Y)++[b])[X.length]?=some a:=by
 rw [List.getElem?_append_left (by simp),Ob]
theorem acA (X:List au) (b:au):iZ (X++[b]) (X++[.dead]):=by
 refine ⟨by simp,fun id o h=>?_⟩;rcases Nat.lt_or_ge id X.length with aq | aq
 ·rw [List.getElem?_append_left aq] at h ⊢;exact .inr h
 ·rw [List.getElem?_append_right aq] at h;cases av:id-X.length with
  | zero=>rw [av] at h;simp at h;exact .inl h.symm
  | succ k=>rw [av] at h;simp at h
theorem acB (X Y:List au) (a b:au):iZ (((X++[a])++Y)++[b]) ((X++[a])++(Y++[.dead])):=by
 rw [←List.append_assoc];exact acA _ b
end Go.Proofs.YtfakoboiahbhaaaGreat.Ab


namespace Go.Proofs.YtfakoboiahbhaaaGreat.Ab
open Go
theorem S_ {α:Type} {f:α→I} (h:∀ x,(f x).view=f x) (l:List α):(l.map f).map I.view=l.map f:=by rw [List.map_map];exact List.map_congr_left fun x _=>h x
theorem V1 {α:Type} (f:α→I) (l:List α) {n:Nat} (aN:∀ x,(f x).view=f x) (h:l.length=n):(((l.map f).drop 0).take n).map I.view=l.map f:=by
 rw [List.drop_zero,List.take_of_length_le (by simp [h]),S_ aN]
def acM (P:Program) (t:TypeId):Array Field:=match P.underlying t with
 | some (.struct fs)=>fs
 | _=>#[]
theorem aaK {P:Program} {t e:TypeId} {len:Nat} {kd k:IntKind} {xs:List Int} {n:Int} (ad:P.underlying t=some (.array len e)) (af:P.underlying e=some (.int kd)) (aH:bQ P e=some 1) (bh:dz P e=false) (aq:xs.length=len) (aP:0≤n∧n<(len:Int)) :
  n7 P t (.agg (xs.map hG)) (.int k n)=some (hG (ix xs n)):=by
 unfold n7;have bM:gQ n len=some n.toNat:=by unfold gQ;rw [if_pos aP]
 simp only [ad,aH,bM,Option.bind_some,Nat.mul_one];unfold ie;simp only [af,bh];have aY:n.toNat<xs.length:=by omega
 rw [List.getElem?_map,List.getElem?_eq_getElem aY,Option.map_some,OC (by omega)]
theorem afD {P:Program} {C:cc} {lo:Nat} {o:Oper} {t:TypeId} {a b:Operand} {x y v:I} {H:List au} (ar:o.op=.index t a b) (h:n7 P t x y=some v) (ae:v.view=v:=by rfl):a6 P C lo o 0 [x,y] H=some (v,H):=by
 unfold a6;rw [ar];show (cv P o [x,y]).map _=_;unfold cv;rw [ar];show ((n7 P t x y).map I.view).map _=_;rw [h,Option.map_some,Option.map_some,ae]
theorem Wn {P:Program} {C:cc} {lo:Nat} {o:Oper} {t e:TypeId} {a:Operand} {id len:Nat} {H:List au} (ar:o.op=.slice t a none none none) (ad:P.underlying t=some (.array len e)) (af:bQ P e=some 1) (aT:0<len):a6 P C lo o 0 [.ptr id 0] H=some (.ref id 0 len (some len) 1,H):=by
 unfold a6;rw [ar];show (cv P o [.ptr id 0]).map _=_;unfold cv;rw [ar];show (ec P t none none none [.ptr id 0]).map _=_;unfold ec;simp only [I.view,eO,ad,af,dd,cE,Option.bind_some];rw [if_neg (by omega)];rfl
theorem M1 {P:Program} {C:cc} {lo mode:Nat} {o:Oper} {xs:Array Operand} {ts:Array TypeId} {vs:List I} {H:List au} (ar:o.op=.call { callee:=.builtin .clear,args:=xs,argTypes:=ts }):a6 P C lo o mode vs H=kB P lo ts H vs:=by
 unfold a6;rw [ar];rfl
theorem W7 (z:I):∀ n:Nat,eU n [z]=List.replicate n z
 | 0=>rfl
 | n+1=>by rw [eU,W7 z n];rfl
theorem UY {P:Program} {lo id n:Nat} {H:List au} {l:List Int} {cap:Option Nat} {e:TypeId} {ts:Array TypeId} (e1:(ts[0]?).bind P.underlying=some (.slice e)) (cd:bQ P e=some 1) (dw:zeroCells P e=some [.int .i64 0]) (bF:lo≤id)
  (ah:H[id]?=some (.cells (l.map hG))) (aP:l.length=n):kB P lo ts H [.ref id 0 n cap 1]=some (.tuple [],H.set id (.cells ((List.replicate n (0:Int)).map hG))):=by
 have oh:setCells 0 (eU n [I.int .i64 0]) (l.map hG)=(List.replicate n (0:Int)).map hG:=by
  apply List.ext_getElem?;intro j;rw [nM _ _ _ _ (by rw [h3];simp;omega),h3,W7];simp only [List.length_singleton,Nat.mul_one,Nat.zero_add,Nat.sub_zero];by_cases az:j<n
  ·rw [if_pos ⟨by omega,az⟩];simp [az]
  ·rw [if_neg (by omega),List.getElem?_eq_none (by simp;omega),List.getElem?_eq_none (by simp;omega)]
 unfold kB;simp only [e1,cd,dw,g5,ah,Option.map_some,if_pos bF];rw [if_pos ⟨trivial,rfl,by decide⟩,if_pos (by simp;omega),oh];rfl
end Go.Proofs.YtfakoboiahbhaaaGreat.Ab


namespace Go.Proofs.YtfakoboiahbhaaaGreat.Ab
open Go
def JS:List I→Nat→List (Nat×I)→List I
 | [],_,_=>[]
 | x::T,_,[]=>x::T
 | x::T,i,(j,v)::r=>match Nat.beq i j with
   | true=>v::JS T (i+1) r
   | false=>x::JS T (i+1) ((j,v)::r)
def Hf (u:Nat→I):Nat→Nat→List (Nat×I)→List I
 | 0,_,_=>[]
 | n+1,i,[]=>u i::Hf u n (i+1) []
 | n+1,i,(j,v)::r=>match Nat.beq i j with
   | true=>v::Hf u n (i+1) r
   | false=>u i::Hf u n (i+1) ((j,v)::r)
def qV (n:Nat) (bk:List (Nat×I)) (T:List I):Prop:=T.length=n∧T=JS T 0 bk
theorem O6 {u bH:Nat→I}:∀ (n i:Nat) (bk:List (Nat×I)),(∀ k,i≤k→u k=bH k)→Hf u n i bk=Hf bH n i bk
 | 0,_,_,_=>rfl
 | n+1,i,[],h=>by
   rw [Hf,Hf,h i (Nat.le_refl _),O6 n (i+1) [] fun k av=>h k (by omega)]
 | n+1,i,(j,v)::r,h=>by
   rw [Hf,Hf];cases Nat.beq i j with
   | true=>exact congrArg _ (O6 n (i+1) r fun k av=>h k (by omega))
   | false=>show u i::_=bH i::_;rw [h i (Nat.le_refl _),O6 n (i+1) _ fun k av=>h k (by omega)]
theorem Xq:∀ (T:List I) (i:Nat) (bk:List (Nat×I)),JS T i bk=Hf (fun k=>c1 T (k-i)) T.length i bk
 | [],_,_=>rfl
 | x::T,i,bk=>by
   have e:∀ bk,Hf (fun k=>c1 (x::T) (k-i)) T.length (i+1) bk=JS T (i+1) bk:=fun bk=>by
    rw [Xq T (i+1) bk];refine O6 _ _ _ fun k av=>?_;show c1 (x::T) (k-i)=c1 T (k-(i+1));rw [show k-i=(k-(i+1))+1 by omega];rfl
   (have fP:c1 (x::T) (i-i)=x:=by rw [Nat.sub_self];rfl);(have acv:∀ (T:List I) i,JS T i []=T:=fun T i=>by cases T <;> rfl);cases bk with
   | nil =>
     show x::T=Hf _ (T.length+1) i [];rw [Hf,fP,e,acv]
   | cons p r =>
     obtain ⟨j,v⟩:=p;show JS (x::T) i ((j,v)::r)=Hf _ (T.length+1) i ((j,v)::r);rw [JS,Hf];cases Nat.beq i j with
     | true=>exact congrArg _ (e r).symm
     | false=>show x::_=_::_;rw [fP,e]
theorem qV.ex {n:Nat} {bk:List (Nat×I)} {T:List I} (h:qV n bk T):∃ u,T=Hf u n 0 bk:=by
 obtain ⟨ad,af⟩:=h;subst ad;exact ⟨_,af.trans (Xq T 0 bk)⟩
class GJ (d:Nat) (v:I):Prop where OL:cl d v=true
class qm (d:Nat) (l:List I):Prop where pl:l.all (cl d)=true
instance {d:Nat}:qm d []:=⟨rfl⟩
instance {d:Nat} {v:I} {l:List I} [a:GJ d v] [b:qm d l]:qm d (v::l):=⟨p5 a.OL b.pl⟩
instance {d:Nat} {a b:List I} [x:qm d a] [y:qm d b]:qm d (a++b):=⟨by rw [List.all_append,x.pl,y.pl];rfl⟩
instance {d:Nat} {α:Type} {f:α→I} {l:List α} [h:∀ x,GJ d (f x)]:qm d (l.map f):=⟨WE (fun x=>(h x).OL) l⟩
instance {d:Nat} {α:Type} {f:α→List I} {l:List α} [h:∀ x,qm d (f x)]:qm d (l.flatMap f):=⟨by
 rw [List.all_eq_true];intro u hu;obtain ⟨x,_,al⟩:=List.mem_flatMap.1 hu
 exact List.all_eq_true.1 (h x).pl u al⟩
instance {d:Nat} {k:IntKind} {n:Int}:GJ (d+1) (.int k n):=⟨rfl⟩
instance {d:Nat} {b:Bool}:GJ (d+1) (.bool b):=⟨rfl⟩
instance {d:Nat} {b:ByteArray}:GJ (d+1) (.str b):=⟨rfl⟩
instance {d:Nat}:GJ (d+1) .eu:=⟨rfl⟩
instance {d n:Nat} {c:h9} {l:List I} [h:qm d l]:GJ (d+1) (.ax l n c):=⟨h.pl⟩
instance {d:Nat} {l:List I} [h:qm d l]:GJ (d+1) (.agg l):=⟨h.pl⟩
instance {d:Nat} {l:List I} [h:qm d l]:GJ (d+1) (.tuple l):=⟨h.pl⟩
instance {d:Nat} {l:List I} [h:qm d l]:GJ (d+1) (.bT l):=⟨h.pl⟩
instance {d:Nat} {α:Type} {f:α→I} {l:List α} [h:∀ x,GJ d (f x)]:GJ (d+1) (aaG f l):=⟨WE (fun x=>(h x).OL) l⟩
instance {d:Nat} {α:Type} {f:α→List I} {l:List α} [h:∀ x,qm d (f x)]:GJ (d+1) (q_ f l):=⟨(inferInstance:qm d (l.flatMap f)).pl⟩
instance {d:Nat} {l:List Int}:GJ (d+2) (i' l):=⟨(inferInstance:qm (d+1) (l.map hG)).pl⟩
instance {d:Nat} {l:List (List Int)}:GJ (d+3) (h' l):=⟨(inferInstance:qm (d+2) (l.map i')).pl⟩
instance {d:Nat} {α:Type} {f:α→List I} {x:Option α} [h:∀ x,qm d (f x)]:GJ (d+1) (OJ f x):=⟨WD (fun x=>(h x).pl) x⟩
theorem qy {p Wq:Prop} [Decidable p] {aU:Type} {k:Option aU} {v:aU} {K:Prop} (h:qd p k=some v) (f:p→Wq) (g:p→k=some v→K):Wq∧K :=
 ⟨f (qD h).1,g (qD h).1 (qD h).2⟩
theorem bs {b:Bool} {aU:Type} {x y:Option aU} {v:aU} {K:Prop} (h:(if b=true then x else y)=some v) (f:b=true→x=some v→K) (g:b=false→y=some v→K):K :=
 match b,h,f,g with
 | true,h,f,_=>f rfl (r4 rfl h)
 | false,h,_,g=>g rfl (r5 rfl h)
theorem afT {d:Nat} {u:I} (h:cl d u.gS=true):cl d u=true:=by
 cases d with
 | zero=>simp [cl] at h
 | succ d=>cases u with
   | ax cs n c=>cases c <;> exact h
   | _=>exact h
theorem WC {d:Nat} {l:List I} (h:(l.map I.gS).all (cl d)=true):l.all (cl d)=true:=by
 rw [List.all_eq_true] at h ⊢;exact fun u hu=>afT (h _ (List.mem_map_of_mem hu))
theorem afS {d:Nat} {r:I} (h:cl d r.settle.view.cm=true):cl d r=true:=by
 cases d with
 | zero=>simp [cl] at h
 | succ d=>cases r with
   | ax cs n c=>cases c <;> exact h
   | agg cs=>exact WC (l:=cs) h
   | tuple cs=>exact WC (l:=cs) h
   | raw=>exact absurd h (by simp [I.settle,I.view,I.cm,cl])
   | cf=>exact absurd h (by simp [I.settle,I.view,I.cm,cl])
   | _=>exact h
theorem ag5 {rs:List ja} {v:I} {T:List I} {H:List au} {vs:List I} [h:GJ 8 v] (ad:jN H T rs=some vs) (af:(g9 vs).settle.view.cm=v):HZ rs v .ret T H :=
 ⟨.inr rfl,vs,ad,_,ox (afS (af ▸ h.OL)),af⟩
end Go.Proofs.YtfakoboiahbhaaaGreat.Ab


namespace Go.Proofs.YtfakoboiahbhaaaGreat.Ab
open Go
section
variable {P:Program} {A:c'} {fn:FuncId} {lo:Nat} {rl:Option Nat}
inductive Qa (P:Program) (A:c') (fn:FuncId) (lo:Nat) (rl:Option Nat) (rc:eM) (T:List I) (H:List au) (Q:cC→List I→List au→Prop):Prop where
 | mk (cG:List Bool) (c:eM) (he:rc=.loop (some cG) c) (hG:Nat→List I→List au→Prop) (m:Nat) (hm:m≤p') (aT:hG m T H)
   (step:∀ (rz:List I→List au→Prop) m T H,hG m T H→(∀ g3 bb H',g3<m→hG g3 bb H'→rz bb H')→nt T fun T=>dB P A fn lo rl c T H fun e bb H'=>match e with
    | .normal=>pv (some cG) bb fun bb=>rz bb H'
    | e=>Q e bb H')
def RI (P:Program) (A:c') (fn:FuncId) (lo:Nat) (rl:Option Nat) (cG:List Bool) (c:eM) (I8:List I) (ID:List au) (Q:cC→List I→List au→Prop) (m:Nat) (bb:List I) (H':List au):Prop :=
 (m=p'+1∧bb=I8∧H'=ID)∨(m≤p'∧∃ hG:Nat→List I→List au→Prop,hG m bb H'∧∀ (rz:List I→List au→Prop) m T H,hG m T H→(∀ g3 bb H',g3<m→hG g3 bb H'→rz bb H')→nt T fun T=>dB P A fn lo rl c T H fun e bb H'=>match e with
   | .normal=>pv (some cG) bb fun bb=>rz bb H'
   | e=>Q e bb H')
theorem YA {rc c:eM} {cG:List Bool} {T I8:List I} {H:List au} {Q:cC→List I→List au→Prop} (he:rc=.loop (some cG) c) (bW:eL cG T=I8)
  (h:∀ rz:List I→List au→Prop,(∀ T H,Qa P A fn lo rl rc T H Q→rz T H)→nt I8 fun T=>dB P A fn lo rl c T H fun e bb H'=>match e with
   | .normal=>pv (some cG) bb fun bb=>rz bb H'
   | e=>Q e bb H'):dB P A fn lo rl rc T H Q:=by
 subst he;refine wp_loop bW (.intro (RI P A fn lo rl cG c I8 H Q) (p'+1) (.inl ⟨rfl,rfl,rfl⟩) ?_);rintro m bb H' (⟨rfl,rfl,rfl⟩ | ⟨hm,hG,j_,step⟩)
 ·have:=h (fun gk H1=>∃ g3,g3<p'+1∧RI P A fn lo rl cG c bb H' Q g3 gk H1) fun T H ln=>by
   obtain ⟨akO,dP,he,hG,m,hm,aT,step⟩:=ln;cases he;exact ⟨m,by omega,.inr ⟨hm,hG,aT,step⟩⟩
  refine cast (congrArg (nt bb) (funext fun T=>congrArg (dB P A fn lo rl c T H') (funext fun e=>?_))) this;cases e <;> rfl
 ·have:=step (fun gk H1=>∃ g3,g3<m∧RI P A fn lo rl cG c I8 H Q g3 gk H1) m bb H' j_ fun g3 gk H1 aY ad=>⟨g3,aY,.inr ⟨by omega,hG,ad,step⟩⟩;refine cast (congrArg (nt bb) (funext fun T=>congrArg (dB P A fn lo rl c T H') (funext fun e=>?_))) this;cases e <;> rfl
end
theorem aiy {P:Program} {A:c'} {fn lo:Nat} {rl:Option Nat} {c:eM} {T:List I} {H:List au} {Q:cC→List I→List au→Prop} (h:dB P A fn lo rl c T (H++[]) Q):dB P A fn lo rl c T H Q:=by
 rw [List.append_nil] at h;exact h
theorem RP {cs:List I} {n d:Nat} {c:h9} (h:cs.all (cl d)=true):cl (d+1) (.ax cs n c)=true:=h
theorem UH (A Y C:List au):(A++Y)++C=A++(Y++C):=List.append_assoc _ _ _
theorem GO (X:List au) (a:au):(X++[a,.dead])[X.length]?=some a:=by simp
theorem Is (X:List au) (a aO:au):(X++[a,.dead]).set X.length aO=X++[aO,.dead]:=by simp
theorem Oa {P:Program} {C:cc} {lo id gid n z:Nat} {o:Oper} {x:Operand} {H:List au} {l:List I} {g cQ:Nat} (ar:o.op=.move x) (bF:lo≤id) (ah:H[id]?=some (.grow l g cQ)) (aP:l.length=n*z) :
  a6 P C lo o 2 [.cf id gid n z] H=some (.ax (l.map I.view) n .shared,H.set id .dead):=by
 unfold a6;rw [ar];show eK P lo 2 o.type x H [.cf id gid n z]=_;unfold eK;simp only [bF,if_true,ah];rw [if_pos aP]
def Nr (l:List Int):h9:=if l.length=1 then .full else .own 1
def He (l:List Int):I:=.ax (l.map hG) l.length (Nr l)
def Jn (l:List Int):I:=.ax (l.map hG) l.length (if l.length=1 then .full else .shared)
theorem agZ (L:List (List Int)):(L.map He).map I.view=L.map Jn:=by
 rw [List.map_map];refine List.map_congr_left fun l _=>?_;show I.view (He l)=Jn l;unfold He Jn Nr;by_cases h:l.length=1
 ·rw [if_pos h,if_pos h];rfl
 ·rw [if_neg h,if_neg h];rfl
theorem Xa (L:List (List Int)) {n:Int} (h:0≤n∧n<(L.length:Int)) {c:h9} (ak:Nr (ix L n)=c):(L.map He)[n.toNat]?=some (.ax ((ix L n).map hG) (ix L n).length c):=by
 obtain ⟨t,rfl⟩:∃ t:Nat,n=(t:Int):=⟨n.toNat,by omega⟩;have aw:t<L.length:=by omega
 rw [Int.toNat_natCast,List.getElem?_map,List.getElem?_eq_getElem aw,←rn aw,←ak];rfl
theorem agX {l:List Int} (h:l.length=1):Nr l=.full:=if_pos h
theorem W' {l:List Int} (h:l.length≠1):Nr l=.own 1:=if_neg h
theorem Xb (L:List (List Int)) (t:Nat) (x:List Int) (al:x.length≠1):(L.map He).set t (.ax (x.map hG) x.length (.own 1))=(L.set t x).map He:=by
 rw [List.map_set];congr 1;unfold He;rw [W' al]
theorem agY (L:List (List Int)) (t:Nat) (y:I) (x:List Int) (al:x.length≠1):((L.map He).set t y).set t (.ax (x.map hG) x.length (.own 1))=(L.set t x).map He:=by
 rw [List.set_set,Xb L t x al]
theorem Rel.rows {J:List Nat} {S:Nat→Nat→Prop} {w:World} {cells:List I} {n:Nat} {v:Value} (h:Rel J S w (.ax cells n .shared) v):Rel J S w (.ax (cells.map I.gS) n .shared) v:=by
 cases h with
 | b2 _ a=>exact .b2 _ a
 | ax _ _ _ b o cap f ak hle hu k eG =>
   refine .ax _ _ _ b o cap f ak hle hu (fun j u az=>?_) (fun j u az=>?_)
   ·rw [List.getElem?_map] at az;simp only [Option.map_eq_some_iff] at az;obtain ⟨x,al,rfl⟩:=az;obtain ⟨aB,aF,aS,bp⟩:=k j x al;exact ⟨aB,aF,xN aS,bp⟩
   ·rw [List.getElem?_map] at az;simp only [Option.map_eq_some_iff] at az;obtain ⟨x,al,rfl⟩:=az;exact (eG j x al).gS
theorem kW.rows {P:Program} {k:FuncId} {args cells:List I} {n:Nat} (h:kW P k args (.ax cells n .shared)) (aD:cl 8 (.ax (cells.map I.gS) n .shared)=true):kW P k args (.ax (cells.map I.gS) n .shared) :=
 ⟨⟨h.1.1,h.1.2.1,fun B U J S w vs ah aP ae=>CallsIn.mono (h.1.2.2 B U J S w vs ah aP ae) fun e w' he=>by
   cases e with
   | returned x =>
     obtain ⟨bo,ca,bI,a,b,c,d,e⟩:=he;exact ⟨bo,ca,bI,a,b,c,d.rows,aV.b3 rfl⟩
   | panicked c=>exact he.elim
   | outgrown=>exact he.elim⟩,aD⟩
theorem Xc (L:List (List Int)):(L.map Jn).map I.gS=L.map i':=by
 rw [List.map_map];refine List.map_congr_left fun l _=>?_;show I.gS (Jn l)=i' l;unfold Jn;by_cases h:l.length=1
 ·rw [if_pos h];rfl
 ·rw [if_neg h];rfl
theorem kW.ag4 {P:Program} {k:FuncId} {args:List I} {L:List (List Int)} (h:kW P k args (.ax (L.map Jn) L.length .shared)):kW P k args (.ax (L.map i') L.length .shared):=by
 have:=h.rows (by rw [Xc];exact rF (fun _=>rF (fun _=>rfl) _ _ _) _ _ _)
 rwa [Xc] at this
theorem UK {α:Type} (f:α→I) (l:List α) (x:α):l.map f++[f x]=(l++[x]).map f:=by simp
theorem UJ {α:Type} (l:List α) (x:α):l.length+1=(l++[x]).length:=by simp
theorem UI (X:List au) (a:au):(X++[a,.dead]).length=(X++[au.dead,.dead]).length:=by simp
end Go.Proofs.YtfakoboiahbhaaaGreat.Ab


namespace Go.Proofs.YtfakoboiahbhaaaGreat.Ab
open Go
instance {d:Nat} {p:Int×Int}:qm (d+1) (p6 p):=⟨(inferInstance:qm (d+1) [hG p.1,hG p.2]).pl⟩
instance {d:Nat} {l:List Int}:GJ (d+2) (Jn l):=⟨(inferInstance:qm (d+1) (l.map hG)).pl⟩
end Go.Proofs.YtfakoboiahbhaaaGreat.Ab


namespace Go.Proofs.YtfakoboiahbhaaaGreat.Ab
open Go
abbrev qa:=List Int
abbrev qe:=List (Int×Int)
abbrev rX:=List (List Int)
abbrev qP:=List (List (Int×Int))
abbrev qn:=Int×List (Int×Int)
abbrev ra:=cC→List I→List au→Prop
abbrev qq (l:List Int) (c:h9):I:=.ax (l.map hG) l.length c
abbrev qf (l:List (Int×Int)) (c:h9):I:=.ax (l.flatMap p6) l.length c
abbrev abW (b:Int×List (Int×Int)):I:=.agg [hG b.1,.ax (b.2.flatMap p6) b.2.length .shared]
abbrev qv (b:Int×List (Int×Int)):au:=au.cells [hG b.1,.ax (b.2.flatMap p6) b.2.length .shared]
def qE {aU:Type} (rs:List ja) (Q:cC→List I→List au→Prop) (e:aU→I) (v:aU):Prop:=∀ T H,HZ rs (e v) .ret T H→Q .ret T H
theorem qj {aU:Type} {x v:aU} {e:aU→I} {rs:List ja} {Q:cC→List I→List au→Prop} {T:List I} {H:List au} {vs:List I} (h:some x=some v) (lj:qE rs Q e v) [k:GJ 8 (e x)] (ad:jN H T rs=some vs) (af:(g9 vs).settle.view.cm=e x):Q .ret T H:=by
 obtain rfl:=Option.some.inj h;exact lj _ _ (ag5 ad af)
class qs (H:List au) (i:Nat) (o:outParam au):Prop where h:H[i]?=some o
instance {H:List au} {o:au}:qs (H++[o]) H.length o:=⟨IK _ _⟩
instance {H:List au} {i:Nat} {o p:au} [k:qs H i o]:qs (H++[p]) i o:=⟨qU k.h⟩
end Go.Proofs.YtfakoboiahbhaaaGreat.Ab


namespace Go.Proofs.YtfakoboiahbhaaaGreat.Ab
open Go Go.ChangeShapes Go.WideShapes Go.ChangeAt Go.RowKit
def S0 (w:World):Nat→Nat→Prop:=fun b o=>∃ v,w.cell? ⟨b,o,none⟩=some v
theorem lI (w:World):aJ w.heap.size (fun _=>none) [] (S0 w) w [] :=
 ⟨rfl,fun _ _ h=>by simp at h,fun _ _ h=>h,fun _ _ h=>by simp at h,Nat.le_refl _⟩
theorem ahX {P:Program} {k:FuncId} {args:List I} {vs:List Value} {W:World} {b:Bool} (h:kW P k args (.bool b)) (ae:a7 (fun i=>.arg i) (fun _=>none) [] (S0 W) W args vs) :
  Calls P k vs.toArray W fun e HK=>e=.returned (.bool b)∧Below W.heap.size W HK:=by
 have ad:=h.1.2.2 W.heap.size (fun _=>none) [] (S0 W) W vs (lI W) (fun _ _ h=>by simp at h) ae;refine (callsIn_wide.1 ad).mono fun e HK he=>?_;cases e with
 | returned v =>
   obtain ⟨ay,bZ,S',_,aA,_,aj,_⟩:=he;cases aj;exact ⟨rfl,aA.os,aA.tape,aA.output,aA.size,fun b ag=>aA.cG b ag rfl⟩
 | panicked c=>exact he.elim
 | outgrown=>exact he.elim
section
variable {H:Type} {enc:TypeId×Value→H} {P:Program} {w:World}
theorem TS {W HK:World} (K:Kids P (·<P.types.size)) (bR:∀ t e,t<P.types.size→P.underlying t=some (.slice e)→0<P.cellsOf e) (p8:Below W.heap.size W HK) {sp:Nat→Bool} :
  ∀ {ts:List TypeId} {vs:List Value} {ds:List (DataW H)} {p:List MemPlace},(∀ t∈ts,t<P.types.size)→DataW.TrodAll enc P W 0 (fun _=>true) true ts vs ds p→(∀ x∈p,sp x.block=true)→(∀ x∈p,x.block<W.heap.size)→DataW.TrodAll enc P HK 0 sp true ts vs ds p
 | [],_,_,_,_,aM,_,_=>by obtain ⟨rfl,rfl,rfl⟩:=trodAll_nil aM;exact trodAll_mk0
 | t::ts,_,_,_,bW,aM,Ly,aY=>by
   obtain ⟨v,vs,d,ds,a,b,rfl,rfl,rfl,⟨n,aP⟩,af⟩:=trodAll_cons aM;refine ⟨a,b,⟨n,?_⟩,TS K bR p8 (fun t aw=>bW t (List.mem_cons_of_mem _ aw)) af (fun x al=>Ly x (List.mem_append_right _ al)) (fun x al=>aY x (List.mem_append_right _ al)),rfl⟩;exact DataW.trod_stays K (fun {t e} aw he=>bR t e aw he) (fun h=>by cases h) (bW t List.mem_cons_self) aP (fun x al=>p8.same (aY x (List.mem_append_left _ al))) fun x al=>Ly x (List.mem_append_left _ al)
theorem afQ {f:Func} {s:ChangeSpec} {again:Bool} {W HK:World} {args:Array Value} {t:TypeId} {ds gs:List (DataW H)} {before:List MemPlace}
  (aq:laidOutB P=true) (hm:mapsRowed P=true) (bn:((List.range P.types.size).all fun t=>match P.underlying t with | some (.slice e)=>decide (0<P.cellsOf e) | _=>true)=true)
  (aw:f.resultTypes=#[t]) (JG:P.underlying t=some .bool) (Ch:f.params.toList.all (fun t=>decide (t<P.types.size))=true) (Ru:s.vars=[])
  (ln:DataW.Whole enc P f.params.toList s.vars false W args.toList ds gs before) (p8:Below W.heap.size W HK)
  (ai:s.fn H (ds++gs)={ results:=[.lit (.bool true)],args:=ds }):s.post enc P f false true false again W args (.bool true) HK:=by
 have aY:=ln.lt;have ac4:=ln;obtain ⟨p,q,aM,jm,rfl,BS,lF⟩:=ac4;rw [Ru] at jm;obtain ⟨rfl,rfl⟩:=trodVars_none jm;rw [List.append_nil] at *;have K:Kids P (·<P.types.size):=kids_rows aq hm;have bR:=slices_full_of P bn;have bW:∀ t∈f.params.toList,t<P.types.size:=fun t h=>by
  have:=List.all_eq_true.1 Ch t h;simpa using this
 have again:∀ sp:Nat→Bool,(∀ x∈p,sp x.block=true)→DataW.TrodAll enc P HK 0 sp true f.params.toList args.toList ds p:=fun sp Ly =>
  TS K bR p8 bW aM Ly aY
 have kj:∀ (b:Nat) (sp:Nat→Bool) (a2:Bool),DataW.TrodAll enc P HK b sp a2 f.resultTypes.toList ((Value.bool true).resultList f.resultTypes.size) (s.fn H ds).results []:=fun b sp a2=>by
  rw [ai,aw];exact trodAll_mk1 (shut_bool JG true)
 have By:∀ sp:Nat→Bool,(∀ x∈p,sp x.block=true)→DataW.TrodAll enc P HK 0 sp true f.params.toList args.toList (s.fn H ds).args p:=fun sp Ly=>by
  rw [ai];exact again sp Ly
 have ae:∀ sp:Nat→Bool,DataW.TrodVars enc P HK sp s.vars (s.fn H ds).vars []:=fun sp=>by
  rw [ai,Ru];rfl
 have hold:∀ x∈p,(fun b=>decide (b<W.heap.size)) x.block=true:=fun x al=>by simpa using aY x al
 refine ⟨ds,[],p,[],p,[],ln,by rw [List.append_nil];exact kj _ _ _,by rw [List.append_nil];exact By _ hold,by rw [List.append_nil];exact ae _,p8.frame _,fun _=>?_⟩;refine ⟨fun j u r hu aj=>?_,(s.fn H ds).results++(s.fn H ds).args,[],p,⟨p,[],?_,?_,by simp,?_,fun h=>by cases h⟩,fun x al _=>al⟩
 ·rw [aw] at hu aj;cases j with
  | zero=>simp [Value.resultList] at hu aj;subst hu;subst aj;exact okWide_bool_mk JG true
  | succ j=>simp at hu
 ·have:=trodAll_append (By (fun _=>true) fun _ _=>rfl) (kj 0 (fun _=>true) true);simpa using this
 ·rw [Ru];rfl
 ·intro b o ag;have:=aY _ ag;rw [p8.frozen (p:=⟨b,o,none⟩) this];exact BS b o ag
abbrev Mf (enc:TypeId×Value→H) (P:Program) (w:World) (e:TypeId) (Q:I→Prop):Prop :=
 ∀ n v y,DataW.trod enc P w 0 (fun _=>true) true n e [v]=some y→∃ u,u.plain=true∧v.oneCell'=true∧Rel [] (S0 w) w u v∧Q u
theorem ab5 {e:TypeId} {k:IntKind} (aw:P.underlying e=some (.int k)):Mf enc P w e fun u=>∃ x,u=.int k x∧(Lit.int k x).wf=true:=by
 intro n v y h;obtain ⟨x,al,_,hw⟩:=DataW.trod_int aw h;injection al with al _;subst al;exact ⟨.int k x,rfl,rfl,.int k x,x,rfl,hw⟩
instance:Inhabited I:=⟨.junk⟩
def IC (x:Int):Prop := -9223372036854775808≤x∧x≤9223372036854775807
theorem wf_i64 {x:Int} (h:(Lit.int .i64 x).wf=true):IC x:=by
 have ad:IntKind.i64.min=-9223372036854775808:=rfl;have af:IntKind.i64.max=9223372036854775807:=rfl;simp only [Lit.wf,Bool.and_eq_true,decide_eq_true_eq] at h;exact ⟨by omega,by omega⟩
structure aaD (l:List Int):Prop where
 n:l.length≤9223372036854775807
 v:∀ x∈l,IC x
structure akf (l:List (List Int)):Prop where
 n:l.length≤9223372036854775807
 v:∀ r∈l,aaD r
theorem afr {n:Nat} (h:n≤maxLen):n≤9223372036854775807:=by unfold maxLen at h;omega
structure akg (l:List Int):Prop where
 n:l.length≤9223372036854775807
 v:∀ x∈l,0≤x∧x≤255
abbrev Arg (enc:TypeId×Value→H) (P:Program) (w:World) (base:Nat) (t:TypeId) (Q:I→Prop):Prop :=
 ∀ v d p,Value.okWide P w .any base t v→DataW.Trod enc P w 0 (fun _=>true) true t v d p→∃ u,u.plain=true∧Rel [] (S0 w) w u v∧Q u
theorem ah3 {us:List I} {vs:List Value} (h:us.length=vs.length) (aj:∀ (i:Nat) (u:I) (v:Value),us[i]?=some u→vs[i]?=some v→u.plain=true∧Rel [] (S0 w) w u v):a7 (fun i=>.arg i) (fun _=>none) [] (S0 w) w us vs :=
 ⟨h,fun i u v hu ae=>(aj i u v hu ae).2,fun i u v hu ae=>aV.b3 (aj i u v hu ae).1⟩
theorem ah4 {xn:I} {v0:Value} (afF:xn.plain=true) (ht:Rel [] (S0 w) w xn v0):a7 (fun i=>.arg i) (fun _=>none) [] (S0 w) w [xn] [v0] :=
 ah3 rfl fun i u v hu ae=>by
  match i with
  | 0=>simp at hu ae;subst hu;subst ae;exact ⟨afF,ht⟩
  | i+1=>simp at hu
end
end Go.Proofs.YtfakoboiahbhaaaGreat.Ab


namespace Go.Proofs.YtfakoboiahbhaaaGreat.Ab
open Go Go.ChangeShapes Go.WideShapes Go.ChangeAt Go.RowKit
section
variable {H:Type} {enc:TypeId×Value→H} {P:Program} {w:World}
theorem Wb {α β:Type} {f:α→β} {R:α→Prop}:∀ {l:List β},(∀ u∈l,∃ x,u=f x∧R x)→∃ gd:List α,l=gd.map f∧∀ x∈gd,R x
 | [],_=>⟨[],rfl,by simp⟩
 | u::l,h=>by
   obtain ⟨x,rfl,al⟩:=h u (by simp);obtain ⟨gd,rfl,bn⟩:=Wb (l:=l) fun y aZ=>h y (by simp [aZ]);exact ⟨x::gd,rfl,by simpa using ⟨al,bn⟩⟩
def NT (enc:TypeId×Value→H) (P:Program) (w:World) (fs:Array Field) (Qs:List (I→Prop)):Prop :=
 Qs.length=fs.size∧∀ (i:Nat) (f:Field) (q:I→Prop),fs[i]?=some f→Qs[i]?=some q→f.offset=i∧P.cellsOf f.type=1∧Mf enc P w f.type q
def Lf (Qs:List (I→Prop)) (us:List I):Prop:=us.length=Qs.length∧∀ (i:Nat) (u:I) (q:I→Prop),us[i]?=some u→Qs[i]?=some q→q u
theorem Xu {t:TypeId} {fs:Array Field} {Qs:List (I→Prop)} (aw:P.underlying t=some (.struct fs)) (ak:P.cellsOf t=fs.size) (aN:NT enc P w fs Qs) {n:Nat} {cs:List Value} {y:DataW H×List MemPlace}
  (h:DataW.trod enc P w 0 (fun _=>true) true n t cs=some y):∃ us:List I,Lf Qs us∧cs.length=us.length∧∀ (j:Nat) (u:I) (v:Value),us[j]?=some u→cs[j]?=some v→u.plain=true∧v.oneCell'=true∧Rel [] (S0 w) w u v:=by
 obtain ⟨xs,m,_,_,aq,akN,al⟩:=DataW.trod_struct aw h;rw [ak] at aq;have each:∀ i,i<fs.size→∃ u:I,(∀ v,cs[i]?=some v→u.plain=true∧v.oneCell'=true∧Rel [] (S0 w) w u v)∧∀ q,Qs[i]?=some q→q u:=fun i hi=>by
  have ad:fs[i]?=some fs[i]:=Array.getElem?_eq_getElem hi;have bl:i<Qs.length:=by rw [aN.1];exact hi
  have af:Qs[i]?=some Qs[i]:=List.getElem?_eq_getElem bl;obtain ⟨e1,cd,dw⟩:=aN.2 i _ _ ad af;have aH:=al i _ ad;rw [e1,cd] at aH;have VL:i<cs.length:=by omega
  rw [List.drop_eq_getElem_cons VL,List.getElem?_eq_getElem (by omega)] at aH;simp only [List.take_succ_cons,List.take_zero] at aH;obtain ⟨u,aB,aF,aS,bp⟩:=dw _ _ _ aH;refine ⟨u,fun v ae=>?_,fun q Ci=>?_⟩
  ·rw [List.getElem?_eq_getElem VL] at ae;cases ae;exact ⟨aB,aF,aS⟩
  ·rw [af] at Ci;cases Ci;exact bp
 obtain ⟨H0,Ls⟩:=Deep.choose_lt (α:=I) (n:=fs.size) (p:=fun i u=>(∀ v,cs[i]?=some v→u.plain=true∧v.oneCell'=true∧Rel [] (S0 w) w u v)∧∀ q,Qs[i]?=some q→q u) each;have get:∀ (i:Nat) (u:I),((List.range fs.size).map H0)[i]?=some u→i<fs.size∧u=H0 i:=fun i u hu=>by
  have hi:i<fs.size:=by have:=(List.getElem?_eq_some_iff.1 hu).1;simpa using this
  simp [hi] at hu;exact ⟨hi,hu.symm⟩
 refine ⟨(List.range fs.size).map H0,⟨by simp [aN.1],fun i u q hu bl=>?_⟩,by simp [aq],fun j u v hu ae=>?_⟩
 ·obtain ⟨hi,rfl⟩:=get i u hu;exact (Ls i hi).2 q bl
 ·obtain ⟨hi,rfl⟩:=get j u hu;exact (Ls j hi).1 v ae
theorem abR {base:Nat} {t:TypeId} {fs:Array Field} {Qs:List (I→Prop)} (aw:P.underlying t=some (.struct fs)) (ak:P.cellsOf t=fs.size) (aN:NT enc P w fs Qs):Arg enc P w base t fun u=>∃ us,u=.agg us∧Lf Qs us:=by
 intro v d p ae ⟨n,a2⟩;unfold Value.okWide at ae;rw [aw] at ae;obtain ⟨cs,rfl,bR,_⟩:=ae;obtain ⟨us,ad,af,aH⟩:=Xu aw ak aN a2;have af:cs.toList.length=us.length:=af;refine ⟨.agg us,rfl,.agg us cs (by simpa using af) (fun u hu=>?_) (fun v ae=>?_) fun j u v hu ae=>?_,us,rfl,ad⟩
 ·obtain ⟨j,az⟩:=List.mem_iff_getElem?.1 hu;have aY:j<cs.toList.length:=by rw [af];exact (List.getElem?_eq_some_iff.1 az).1
  exact (aH j u _ az (List.getElem?_eq_getElem aY)).1
 ·obtain ⟨j,az⟩:=List.mem_iff_getElem?.1 ae;have aY:j<us.length:=by rw [←af];exact (List.getElem?_eq_some_iff.1 az).1
  exact (aH j _ v (List.getElem?_eq_getElem aY) az).2.1
 ·exact (aH j u v hu (by show cs.toList[j]?=some v;simpa using ae)).2.2
theorem Vg {s:Nat}:∀ {L:List (List I)} {j:Nat} {u:I},(∀ l∈L,l.length=s)→0<s→L.flatten[j]?=some u→∃ l,L[j / s]?=some l∧l[j % s]?=some u
 | [],j,u,_,_,h=>by simp at h
 | l::L,j,u,aq,ai,h=>by
   have aT:l.length=s:=aq l (by simp);rw [List.flatten_cons] at h;by_cases az:j<s
   ·rw [List.getElem?_append_left (by omega)] at h;exact ⟨l,by rw [Nat.div_eq_of_lt az];rfl,by rw [Nat.mod_eq_of_lt az];exact h⟩
   ·rw [List.getElem?_append_right (by omega),aT] at h;obtain ⟨k,a,b⟩:=Vg (s:=s) (fun x al=>aq x (by simp [al])) ai h;(have e1:j / s=(j-s) / s+1:=by rw [Nat.div_eq_sub_div ai (by omega)]);(have cd:j % s=(j-s) % s:=by rw [Nat.mod_eq_sub_mod (by omega)]);exact ⟨k,by rw [e1];simpa using a,by rw [cd];exact b⟩
theorem ab7 {t e:TypeId} {fs:Array Field} {Qs:List (I→Prop)} (aw:P.underlying t=some (.slice e)) (he:P.underlying e=some (.struct fs)) (ak:P.cellsOf e=fs.size) (aT:0<fs.size) (aN:NT enc P w fs Qs) :
  Mf enc P w t fun u=>∃ L:List (List I),u=.ax L.flatten L.length .shared∧L.length≤maxLen∧∀ us∈L,Lf Qs us:=by
 intro fuel v x h;rcases Deep.open_slice aw h with ⟨ae,_⟩ | ⟨a,len,cap,m,n,D,akn,ae,_,aq,hm,o7,_,al⟩
 ·injection ae with ae _;subst ae;exact ⟨_,rfl,rfl,.b2 _ _,[],rfl,Nat.zero_le _,by simp⟩
 ·injection ae with ae _;subst ae;have o7:m=cap:=o7;by_cases BB:cap=0
  ·(subst BB;obtain rfl:len=0:=by omega);exact ⟨_,rfl,rfl,.b2 _ _,[],rfl,Nat.zero_le _,by simp⟩
  ·have each:∀ i,i<len→∃ q:List I×List Value,Lf Qs q.1∧q.2.length=fs.size∧w.cells? 0 (a.add (i*fs.size)) fs.size=some q.2∧∀ (j:Nat) (u:I) (v:Value),q.1[j]?=some u→q.2[j]?=some v→u.plain=true∧v.oneCell'=true∧Rel [] (S0 w) w u v:=fun i hi=>by
    obtain ⟨c3,ad,af⟩:=al i (by omega);rw [ak] at ad;obtain ⟨us,br,cU,ff⟩:=Xu he ak aN af;exact ⟨(us,c3),br,by have:=br.1;rw [cU,this,aN.1],ad,ff⟩
   obtain ⟨q0,_,_,adS,_⟩:∃ q:List Value,True∧True∧w.cells? 0 (a.add (0*fs.size)) fs.size=some q∧True:=by
    obtain ⟨c3,ad,_⟩:=al 0 (by omega);rw [ak] at ad;exact ⟨c3,trivial,trivial,ad,trivial⟩
   obtain ⟨b,o,sp⟩:=a;have ai:sp=none:=by
    obtain ⟨_,hlen,bw⟩:=World.cells?_some adS;have:=bw 0 aT;rw [List.getElem?_eq_getElem (by omega)] at this;simpa [Addr.add] using World.cell?_spot this
   subst ai;obtain ⟨H0,Ls⟩:=Deep.choose_lt (α:=List I×List Value) (n:=len) (p:=fun i q=>Lf Qs q.1∧q.2.length=fs.size∧w.cells? 0 (Addr.add ⟨b,o,none⟩ (i*fs.size)) fs.size=some q.2∧∀ (j:Nat) (u:I) (v:Value),q.1[j]?=some u→q.2[j]?=some v→u.plain=true∧v.oneCell'=true∧Rel [] (S0 w) w u v) each;(have ac2:∀ i,i<len→(H0 i).1.length=fs.size:=fun i hi=>by have:=(Ls i hi).1.1;rw [this,aN.1]);have dJ:∀ l∈((List.range len).map fun i=>(H0 i).1),l.length=fs.size:=fun l dr=>by
    obtain ⟨i,hi,rfl⟩:=List.mem_map.1 dr;exact ac2 i (List.mem_range.1 hi)
   let V:Nat→Value:=fun j=>((H0 (j / fs.size)).2)[j % fs.size]!
   have key:∀ (j:Nat) (u:I),(((List.range len).map fun i=>(H0 i).1).flatten)[j]?=some u→w.cell? ⟨b,o+j,none⟩=some (V j)∧u.plain=true∧(V j).oneCell'=true∧Rel [] (S0 w) w u (V j):=fun j u az=>by
    obtain ⟨l,cn,cp⟩:=Vg dJ aT az;(have hi:j / fs.size<len:=by have:=(List.getElem?_eq_some_iff.1 cn).1;simpa using this);simp [hi] at cn;subst cn;obtain ⟨a',bm,bt,b6⟩:=Ls _ hi;have adK:j % fs.size<fs.size:=Nat.mod_lt _ aT;have ae:(H0 (j / fs.size)).2[j % fs.size]?=some (V j):=by
     show _=some ((H0 (j / fs.size)).2[j % fs.size]!);rw [List.getElem?_eq_getElem (by omega),getElem!_pos _ _ (by omega)]
    obtain ⟨_,_,bw⟩:=World.cells?_some bt;have MM:=bw (j % fs.size) adK;rw [ae] at MM;have e:(Addr.add (Addr.add ⟨b,o,none⟩ (j / fs.size*fs.size)) (j % fs.size))=⟨b,o+j,none⟩:=by
     simp only [add_lit];congr 1;have:=Nat.div_add_mod' j fs.size;omega
    rw [e] at MM;exact ⟨MM,b6 _ _ _ cp ae⟩
   refine ⟨.ax ((List.range len).map fun i=>(H0 i).1).flatten len .shared,rfl,rfl,.ax _ _ _ b o cap V (by simp) aq (by simp) (fun j u az=>?_) (fun j u az=>?_),(List.range len).map fun i=>(H0 i).1,by simp,by simp;omega,fun us hu=>?_⟩
   ·obtain ⟨aL,aQ,ch,_⟩:=key j u az;exact ⟨⟨_,aL⟩,aL,aQ,ch⟩
   ·exact (key j u az).2.2.2
   ·obtain ⟨j,az,rfl⟩:=List.mem_map.1 hu;exact (Ls j (List.mem_range.1 az)).1
end
end Go.Proofs.YtfakoboiahbhaaaGreat.Ab


namespace Go.Proofs.YtfakoboiahbhaaaGreat.Ab
open Go
set_option maxRecDepth 20000
set_option maxHeartbeats 4000000
noncomputable def aai:eM :=
 FY [gO 3 [.hA 1] .box,FM 4 0,FM 5 0] (.seq (FT [FO 7 0,gO 8 [.hD 7] .za,Fu 9 8 0,Fu 10 9 1,FL 11 10,gO 12 [.sl 3] (.ov 0),FL 13 12,FH 14 11 13 2,gO 15 [.hD 14] (.px (.str 2)),gO 6 [] (.alloc [.int .i64 0,.int .i64 0]),⟨none,[.sl 6,.hA 15],none,none,.st 2⟩]) (.seq (FY [Fu 16 3 1,FL 17 16,Fm 18 17 0 .gtr] (.cond (.sl 18) (.seq (FT [gO 19 [.sl 6] (.ov 1),FL 20 19,gO 21 [.sl 6] (.ov 0),FL 22 21,FO 4 20,FO 5 22]) .ret) .skip)) (.seq (FT [gO 23 [.sl 6] (.ov 0),FL 24 23,gO 25 [.sl 6] (.ov 1),FL 26 25,FO 4 24,FO 5 26]) .ret)))
theorem ae7:yQ Tryz.prog Us 68=some (aai,27,[.tmp 4,.tmp 5]):=by kernel_rfl
def J3 (t:qn) (p:(Int×Int)):Option (Int×Int) :=
 qd (0≤p.1∧p.1<(t.2.length:Int)) <|
 if (decide ((0:Int)<p.2))=true then
  some ((ix t.2 p.1).2,(ix t.2 p.1).1)
 else
  some ((ix t.2 p.1).1,(ix t.2 p.1).2)
theorem I3 {t:qn} {p:(Int×Int)} {v:(Int×Int)} (h:J3 t p=some v):qC 68 [(.bT [(hG t.1),(.ax (t.2.flatMap p6) t.2.length .shared)]),(.agg [(hG p.1),(hG p.2)])] (.tuple [(hG v.1),(hG v.2)]):=by
 refine qN dD ae7 rfl (HX (p5 rfl (p5 rfl rfl))) fun Q bz=>?_;have lj:qE [.tmp 4,.tmp 5] Q (fun v=>(.tuple [(hG v.1),(hG v.2)])) v:=fun T H bJ=>bz _ T H bJ;unfold J3 at h;unfold aai;conv=>whnf
 refine qy h id fun eQ h=>?_;rw [qQ p6 2 qz t.2 p.1 eQ];conv=>whnf
 refine bs h (fun fi h=>?_) fun fi h=>?_
 ·rw [fi];conv=>whnf
  exact qj h lj rfl rfl
 ·rw [fi];conv=>whnf
  exact qj h lj rfl rfl
end Go.Proofs.YtfakoboiahbhaaaGreat.Ab


namespace Go.Proofs.YtfakoboiahbhaaaGreat.Ab
open Go
noncomputable def Sd:eM :=
 FY [FO 30 7,gO 31 [.sl 2] (.px .one),Fo 32 30 31 .eql,FO 33 32,dZ 34 [.sl 0] 33 true .iH,dZ 35 [.hD 6] 33 true (.px (.str 2)),dZ 36 [.hA 34,.hA 35] 33 true (.call 1),dZ 37 [.hD 36] 33 true (.un .not),gO 38 [.hD 33,.hD 37,.ij (.bool false)] .pick] (.cond (.sl 38) .ret .skip)
noncomputable def Se:eM :=
 FY [gO 25 [.sl 1] (.px .one),gO 26 [.sl 6] (.px (.str 2)),gO 27 [.ij (.func 68 [] []),.sl 25,.sl 26] (.call 3),FO 24 27,F5 28 24 0,gO 29 [.hD 24] (.ext 1),FO 7 28,FO 8 29] Sd
noncomputable def Sf:eM :=
 FY [FN 21 4,FO 22 5,gO 23 [.hD 21,.hD 22] (.build [.int .i64 0,.int .i64 0] [(0,1),(1,1)]),gO 6 [] (.alloc [.int .i64 0,.int .i64 0]),⟨none,[.sl 6,.hA 23],none,none,.st 2⟩] Se
noncomputable def Sg:eM :=
 .block 3 (FY [FN 20 18,FO 5 20] Sf)
noncomputable def Sh:eM :=
 FY [FM 18 0] (.block 2 (.loop (some (DX false [0,3,1,1,9,2,2,1,22])) (FY [gO 19 [.sl 18,.ij (.int .i64 2)] (.bin .lss)] (.seq (.cond (.sl 19) .skip (.exit 2)) (.seq Sg (FR [Fk 39 18 1,FO 18 39]))))))
noncomputable def Si:eM :=
 .block 1 (FY [FN 17 15,FO 4 17] Sh)
noncomputable def WQ:eM :=
 FY [gO 9 [.sl 1] (.px .one),gO 10 [.hD 9] .za,Fu 11 10 0,Fu 12 11 1,FL 13 12,FK 14 13,FM 15 0] (.block 0 (.loop (some (DX false [0,3,11,2,25])) (FY [gO 16 [.sl 15,.sl 14] (.bin .lss)] (.seq (.cond (.sl 16) .skip (.exit 0)) (.seq Si (FR [Fk 40 15 1,FO 15 40]))))))
theorem aeh:yQ Go.Proofs.Tryz.prog T3 113=some (WQ,41,[]):=by kernel_rfl
end Go.Proofs.YtfakoboiahbhaaaGreat.Ab


namespace Go.Proofs.YtfakoboiahbhaaaGreat.Ab
open Go
set_option maxRecDepth 20000
set_option maxHeartbeats 4000000
abbrev qb:=Int×List (Int×Int)
def rv (r:Nat):Int×Int:=(((r / 2:Nat):Int),((r % 2:Nat):Int))
def qX (t:qb) (p:Int×Int):Int:=if 0<p.2 then (ix t.2 p.1).2 else (ix t.2 p.1).1
def fin (t:qb) (p:Int×Int):Int:=if 0<p.2 then (ix t.2 p.1).1 else (ix t.2 p.1).2
theorem Ix {t:qb} {p:Int×Int} (h:0≤p.1∧p.1<(t.2.length:Int)):J3 t p=some (qX t p,fin t p):=by
 rw [J3,qp h];unfold qX fin;by_cases ad:0<p.2
 ·rw [if_pos (decide_eq_true ad),if_pos ad,if_pos ad]
 ·rw [if_neg (by simpa using ad),if_neg ad,if_neg ad]
def rY (t:qb) (figure:Int) (r:Nat):Bool:=decide (qX t (rv r)=figure)
def Ga (t:qb) (figure:Int):List (Int×Int):=((List.range (2*t.2.length)).filter (rY t figure)).map rv
theorem QJ (p:Nat→Bool) {j:Nat} (aD:p j=true):∀ {n:Nat},j<n→((List.range n).filter p)[((List.range j).filter p).length]?=some j
 | 0,h=>absurd h (by omega)
 | n+1,h=>by
   rw [List.range_succ,List.filter_append];by_cases az:j<n
   ·have:=QJ p aD az;rw [List.getElem?_append_left (List.getElem?_eq_some_iff.1 this).1,this]
   ·(obtain rfl:j=n:=by omega);rw [List.getElem?_append_right (Nat.le_refl _)];simp [aD]
theorem N9 (p:Nat→Bool) (j:Nat):((List.range (j+1)).filter p).length=((List.range j).filter p).length+if p j=true then 1 else 0:=by
 rw [List.range_succ,List.filter_append,List.length_append];by_cases h:p j=true
 ·rw [if_pos h];simp [h]
 ·rw [if_neg h];simp [h]
theorem ahm {α:Type} (Y:α) (step:Nat→α→α):∃ Z:Nat→α,Z 0=Y∧∀ j,Z (j+1)=step j (Z j):=⟨fun n=>Nat.rec Y (fun j z=>step j z) n,rfl,fun _=>rfl⟩
theorem OM {n i b:Nat} (hi:i<n) (ag:b<2):rv (2*i+b)=((i:Int),(b:Int)):=by
 unfold rv;rw [show (2*i+b) / 2=i by omega,show (2*i+b) % 2=b by omega]
theorem UO {t:qb} {figure:Int} (al:t.2.length≤1000) {L N:Nat} {rP:Nat→List au} (hlen:∀ i,(rP i).length=N) {c:Nat→Nat} (ak:∀ j,c j=((List.range j).filter (rY t figure)).length) {M:Nat} (Lq:M≤2*t.2.length) {Z:Nat→List au} {NU:List au}
  (bn:∀ r,r<M→if rY t figure r=true then Sem Tryz.prog (.yield L) [.agg (p6 (rv r))] (rP (c r)++(Z r++[au.cells (p6 (rv r))])) 0 (.bool true) (rP (c (r+1))++Z (r+1)) else Z (r+1)=Z r++[au.cells (p6 (rv r))])
  (he:(M=2*t.2.length∧NU=rP (c M)++Z M)∨(M<2*t.2.length∧rY t figure M=true∧Sem Tryz.prog (.yield L) [.agg (p6 (rv M))] (rP (c M)++(Z M++[au.cells (p6 (rv M))])) 0 (.bool false) NU)) (o4:a_ 0 (rP 0++Z 0) NU) :
  Sem Tryz.prog (.fn 113) [.yield L,.bT [.bT [hG t.1,.ax (t.2.flatMap p6) t.2.length .shared]],.bT [hG figure]] (rP 0++Z 0) 0 (.tuple []) NU:=by
 obtain ⟨n,aP⟩:∃ n,n=t.2.length:=⟨_,rfl⟩;obtain ⟨p,aD⟩:∃ p,p=rY t figure:=⟨_,rfl⟩;have jq:∀ j,c (j+1)=c j+if p j=true then 1 else 0:=fun j=>by rw [ak,ak,aD];exact N9 _ j
 rw [←aP] at Lq he al;rw [←aD] at bn he;refine G0 dD aeh rfl o4 fun Q bz=>?_;unfold WQ;obtain ⟨fN,Gw⟩:∃ c,Si=c:=⟨_,rfl⟩;rw [Gw];conv=>whnf
 rw [←aP];refine .intro (fun m T H=>∃ i:Nat,i≤n∧2*i≤M∧m=n-i∧T=F2 41 [(0,.yield L),(1,.bT [.bT [hG t.1,.ax (t.2.flatMap p6) n .shared]]),(2,.bT [hG figure]),(14,hG (n:Int)),(15,hG (i:Int))]∧H=rP (c (2*i))++Z (2*i)) n ⟨0,Nat.zero_le _,Nat.zero_le _,rfl,rfl,by rw [ak];rfl⟩ ?_;rintro m T H ⟨i,hi,adx,rfl,rfl,rfl⟩;conv=>whnf
 refine Hj (fun MM=>?_) (fun MM=>?_)
 ·have aY:i<n:=by omega
  conv=>whnf
  refine HI fun mv Gy=>?_;subst Gw;unfold Si;obtain ⟨dQ,Bp⟩:∃ c,Sh=c:=⟨_,rfl⟩;rw [Bp];conv=>whnf
  refine HI fun mw IM=>?_;subst Bp;unfold Sh;obtain ⟨b6,il⟩:∃ c,Sg=c:=⟨_,rfl⟩;rw [il];conv=>whnf
  refine .intro (fun m T H=>∃ b:Nat,b≤2∧2*i+b≤M∧m=2-b∧T=F2 41 [(0,.yield L),(1,.bT [.bT [hG t.1,.ax (t.2.flatMap p6) n .shared]]),(2,.bT [hG figure]),(4,hG (i:Int)),(14,hG (n:Int)),(15,hG (i:Int)),(18,hG (b:Int))]∧H=rP (c (2*i+b))++Z (2*i+b)) 2 ⟨0,Nat.zero_le _,adx,rfl,rfl,rfl⟩ ?_;rintro m T H ⟨b,ag,Rb,rfl,rfl,rfl⟩;conv=>whnf
  refine Hj (fun bq=>?_) (fun bq=>?_)
  ·(have fi:b<2:=by omega);have Mv:rv (2*i+b)=((i:Int),(b:Int)):=OM aY fi;have acS:J3 t ((i:Int),(b:Int))=some (qX t ((i:Int),(b:Int)),fin t ((i:Int),(b:Int))):=Ix ⟨by omega,by omega⟩;have Wf:=I3 acS;rw [←aP] at Wf;(conv=>whnf);refine HI fun akh Q3=>?_;subst il;unfold Sg;obtain ⟨bt,ed⟩:∃ c,Sf=c:=⟨_,rfl⟩;rw [ed];(conv=>whnf);refine HI fun aki Q4=>?_;subst ed;unfold Sf;obtain ⟨bm,cp⟩:∃ c,Se=c:=⟨_,rfl⟩;rw [cp];(conv=>whnf);refine Dj (x:=au.cells [hG (0:Int),hG (0:Int)]) (by first | exact qs.h | rfl | (simp [List.getElem?_append,I.settle];done)) ?_
   (conv=>whnf);rw [rK];refine HI fun akj Q5=>?_;subst cp;unfold Se;obtain ⟨a',cn⟩:∃ c,Sd=c:=⟨_,rfl⟩;rw [cn];(conv=>whnf);refine Dj (x:=au.cells [hG (i:Int),hG (b:Int)]) (by first | exact qs.h | rfl | (simp [List.getElem?_append,I.settle];done)) ?_
   (conv=>whnf);refine ⟨(p5 (q' (p5 rfl (p5 (q4 (fun _=>(p5 rfl (p5 rfl rfl))) _ _ _) rfl))) (p5 (H8 (p5 rfl (p5 rfl rfl))) rfl)),_,Wf,?_⟩;(conv=>whnf);refine HI fun akk Q6=>?_;subst cn;unfold Sd;(conv=>whnf);rcases Hu (decide (qX t ((i:Int),(b:Int))=figure)) with JG | JG
   ·(have IS:p (2*i+b)=true:=by rw [aD];show decide (qX t (rv (2*i+b))=figure)=true;rw [Mv];exact JG);rw [JG];(conv=>whnf);refine Dj (x:=au.cells [hG (i:Int),hG (b:Int)]) (by first | exact qs.h | rfl | (simp [List.getElem?_append,I.settle];done)) ?_
    (conv=>whnf);rw [List.append_assoc];by_cases Q7:2*i+b<M
    ·have aj:=bn _ Q7;rw [if_pos IS,Mv] at aj;refine ⟨_,_,G9 aj,?_⟩;(conv=>whnf);refine Q6 _ _ _ ?_;(conv=>whnf);refine Q5 _ _ _ ?_;(conv=>whnf);refine Q4 _ _ _ ?_;(conv=>whnf);refine Q3 _ _ _ ?_;(conv=>whnf);refine ⟨2-(b+1),by omega,b+1,by omega,by omega,rfl,?_,rfl⟩;rw [show IntKind.i64.wrap ((b:Int)+1)=((b+1:Nat):Int) by rw [Ib _ (by omega) (by omega)];omega];rfl
    ·(have acX:M=2*i+b:=by omega);rcases he with ⟨ad,_⟩ | ⟨_,_,aH⟩
     ·omega
     ·rw [acX,Mv] at aH;refine ⟨_,_,G9 aH,?_⟩;(conv=>whnf);refine Q6 _ _ _ ?_;(conv=>whnf);refine Q5 _ _ _ ?_;(conv=>whnf);refine Q4 _ _ _ ?_;(conv=>whnf);refine Q3 _ _ _ ?_;(conv=>whnf);refine IM _ _ _ ?_;(conv=>whnf);refine Gy _ _ _ ?_;(conv=>whnf);exact bz _ _ _ ⟨.inr rfl,iZ.refl _,rfl⟩
   ·(have IS:¬ p (2*i+b)=true:=by rw [aD];show ¬ decide (qX t (rv (2*i+b))=figure)=true;rw [Mv,JG];decide);have Q7:2*i+b<M:=by
     rcases he with ⟨ad,_⟩ | ⟨_,af,_⟩
     ·omega
     ·rcases Nat.lt_or_ge (2*i+b) M with h | h
      ·exact h
      ·rw [show M=2*i+b by omega] at af;exact absurd af IS
    have aj:=bn _ Q7;rw [if_neg IS,Mv] at aj;rw [JG];(conv=>whnf);refine Q6 _ _ _ ?_;(conv=>whnf);refine Q5 _ _ _ ?_;(conv=>whnf);refine Q4 _ _ _ ?_;(conv=>whnf);refine Q3 _ _ _ ?_;(conv=>whnf);refine ⟨2-(b+1),by omega,b+1,by omega,by omega,rfl,?_,?_⟩
    ·rw [show IntKind.i64.wrap ((b:Int)+1)=((b+1:Nat):Int) by rw [Ib _ (by omega) (by omega)];omega];rfl
    ·rw [show 2*i+(b+1)=2*i+b+1 by omega,aj,jq,if_neg IS,List.append_assoc];rfl
  ·(obtain rfl:b=2:=by omega);(conv=>whnf);refine IM _ _ _ ?_;(conv=>whnf);refine Gy _ _ _ ?_;(conv=>whnf);refine ⟨n-(i+1),by omega,i+1,by omega,by omega,rfl,?_,rfl⟩;rw [show IntKind.i64.wrap ((i:Int)+1)=((i+1:Nat):Int) by rw [Ib _ (by omega) (by omega)];omega];rfl
 ·obtain rfl:i=n:=by omega
  conv=>whnf
  rcases he with ⟨ad,af⟩ | ⟨ad,_,_⟩
  ·subst af;rw [ad] at bz;exact bz _ _ _ ⟨.inl rfl,iZ.refl _,rfl⟩
  ·omega
theorem UN {t:qb} {figure:Int} {L N:Nat} {rP:Nat→List au} (hlen:∀ i,(rP i).length=N) {c:Nat→Nat} (ak:∀ j,c j=((List.range j).filter (rY t figure)).length) {M:Nat} (Y:List au)
  (aj:∀ r,r<M→rY t figure r=true→∀ Y,∃ rL,Sem Tryz.prog (.yield L) [.agg (p6 (rv r))] (rP (c r)++Y) 0 (.bool true) (rP (c r+1)++rL)) :
  ∃ Z:Nat→List au,Z 0=Y∧(∀ r,r<M→if rY t figure r=true then Sem Tryz.prog (.yield L) [.agg (p6 (rv r))] (rP (c r)++(Z r++[au.cells (p6 (rv r))])) 0 (.bool true) (rP (c (r+1))++Z (r+1)) else Z (r+1)=Z r++[au.cells (p6 (rv r))]) ∧
    ∀ r,r≤M→(rP 0++Y).length≤(rP (c r)++Z r).length:=by
 have jq:∀ j,c (j+1)=c j+if rY t figure j=true then 1 else 0:=fun j=>by rw [ak,ak];exact N9 _ j
 have yp:∀ (j:Nat) (Y:List au),∃ rL,j<M→rY t figure j=true→Sem Tryz.prog (.yield L) [.agg (p6 (rv j))] (rP (c j)++Y) 0 (.bool true) (rP (c (j+1))++rL):=fun j Y=>by
  by_cases az:j<M∧rY t figure j=true
  ·obtain ⟨rL,h⟩:=aj j az.1 az.2 Y;exact ⟨rL,fun _ _=>by rw [jq,if_pos az.2];exact h⟩
  ·exact ⟨[],fun a b=>absurd ⟨a,b⟩ az⟩
 obtain ⟨g,aK⟩:∃ g:Nat→List au→List au,∀ (j:Nat) (Y:List au),j<M→rY t figure j=true→Sem Tryz.prog (.yield L) [.agg (p6 (rv j))] (rP (c j)++Y) 0 (.bool true) (rP (c (j+1))++g j Y) :=
  ⟨fun j Y=>Classical.choose (yp j Y),fun j Y=>Classical.choose_spec (yp j Y)⟩
 clear yp;obtain ⟨Z,JF,JE⟩:=ahm Y fun j Y=>if rY t figure j=true then g j (Y++[au.cells (p6 (rv j))]) else Y++[au.cells (p6 (rv j))];refine ⟨Z,JF,fun r OA=>?_,fun r=>?_⟩
 ·by_cases h:rY t figure r=true
  ·rw [if_pos h,JE r,if_pos h];exact aK r _ OA h
  ·rw [if_neg h,JE r,if_neg h]
 ·induction r with
  | zero=>intro _;rw [JF,List.length_append,List.length_append,hlen,hlen];exact Nat.le_refl _
  | succ j a9 =>
    intro az;refine Nat.le_trans (a9 (by omega)) ?_;by_cases IS:rY t figure j=true
    ·have ad:=(aK j (Z j++[au.cells (p6 (rv j))]) (by omega) IS).1.1;rw [JE j];simp only [if_pos IS];refine Nat.le_trans ?_ ad;rw [←List.append_assoc];simp
    ·rw [JE j,jq,if_neg IS];simp only [if_neg IS];rw [←List.append_assoc];simp
theorem RJ {t:qb} {figure:Int} {r:Nat} (aj:r<2*t.2.length) (ag:rY t figure r=true):((Ga t figure).map fun p=>I.agg (p6 p))[((List.range r).filter (rY t figure)).length]?=some (.agg (p6 (rv r))):=by
 rw [Ga,List.map_map,List.getElem?_map,QJ _ ag aj];rfl
def JR (t:qb) (figure:Int):Option (List (Int×Int)):=if t.2.length≤1000 then some (Ga t figure) else none
theorem ag8 {t:qb} {figure:Int} {v:List (Int×Int)} (h:JR t figure=some v):Seq Tryz.prog 113 [.bT [.bT [hG t.1,.ax (t.2.flatMap p6) t.2.length .shared]],.bT [hG figure]] (v.map fun e1=>.agg [hG e1.1,hG e1.2]):=by
 unfold JR at h;split at h
 ·rename_i al;obtain rfl:=Option.some.inj h;intro L N rP hlen fh aj Y;have ak:∀ j,((List.range j).filter (rY t figure)).length=((List.range j).filter (rY t figure)).length:=fun _=>rfl;have rM:((Ga t figure).map fun e1=>I.agg [hG e1.1,hG e1.2]).length=((List.range (2*t.2.length)).filter (rY t figure)).length:=by simp [Ga]
  obtain ⟨Z,JF,JE,hle⟩:=UN (t:=t) (figure:=figure) (L:=L) hlen ak (M:=2*t.2.length) Y fun r OA ag Y=>by
   have aK:=RJ OA ag;obtain ⟨ad,af⟩:=List.getElem?_eq_some_iff.1 aK;obtain ⟨rL,h⟩:=aj _ ad Y;refine ⟨rL,?_⟩;rw [←af];exact h
  refine ⟨Z (2*t.2.length),?_⟩;rw [rM,←JF];exact UO al hlen ak (Nat.le_refl _) JE (.inl ⟨rfl,rfl⟩) (OE (by rw [JF];exact hle _ (Nat.le_refl _)))
 ·cases h
end Go.Proofs.YtfakoboiahbhaaaGreat.Ab


namespace Go.Proofs.YtfakoboiahbhaaaGreat.Ab
open Go Go.ChangeShapes Go.WideShapes Go.ChangeAt Go.RowKit
set_option maxRecDepth 100000
section
variable {H:Type} {enc:TypeId×Value→H} {w:World} {base:Nat}
def Lh:I→Prop:=fun u=>∃ x,u=hG x∧IC x
theorem QB:Mf enc Tryz.prog w 3 Lh:=fun n v y h=>by
 obtain ⟨u,a,b,c,x,rfl,d⟩:=ab5 (P:=Tryz.prog) Tryz.underlying3 n v y h;exact ⟨_,a,b,c,x,rfl,wf_i64 d⟩
theorem afG {us:List I} (h:Lf [Lh,Lh] us):∃ p:Int×Int,us=p6 p∧IC p.1∧IC p.2:=by
 obtain ⟨aq,h⟩:=h
 match us,aq with
 | [a,b],_ =>
   obtain ⟨x,rfl,al⟩:=h 0 _ _ rfl rfl;obtain ⟨y,rfl,aZ⟩:=h 1 _ _ rfl rfl;exact ⟨(x,y),rfl,al,aZ⟩
def TK (bk:List (Int×Int)):Prop:=bk.length≤9223372036854775807∧∀ p∈bk,IC p.1∧IC p.2
abbrev Qb (bk:List (Int×Int)):I:=.ax (bk.flatMap p6) bk.length .shared
def TM:I→Prop:=fun u=>∃ bk,u=Qb bk∧TK bk
theorem acF : NT enc Tryz.prog w #[{ name := "Left", type := 3, offset := 0, embedded := false, tag := "", pkgPath := "", byteOffset := 0 }, { name := "Right", type := 3, offset := 1, embedded := false, tag := "", pkgPath := "", byteOffset := 8 }] [Lh, Lh] := ⟨rfl, fun i f q aN bl => by
 match i with
 | 0=>simp at aN bl;subst aN;subst bl;exact ⟨rfl,by kernel_rfl,QB⟩
 | 1=>simp at aN bl;subst aN;subst bl;exact ⟨rfl,by kernel_rfl,QB⟩
 | i+2=>simp at bl⟩
theorem ab6:Mf enc Tryz.prog w 22 TM:=fun n v y h=>by
 obtain ⟨u,a,b,c,L,rfl,aq,fh⟩:=ab7 Tryz.underlying22 Tryz.underlying67 (by kernel_rfl) (by decide) acF n v y h;obtain ⟨bk,rfl,aD⟩:=Wb (f:=p6) (R:=fun p:Int×Int=>IC p.1∧IC p.2) fun us hu=>by
  obtain ⟨p,e,ad,af⟩:=afG (fh us hu);exact ⟨p,e,ad,af⟩
 refine ⟨_,a,b,c,bk,?_,by have:=afr aq;simpa using this,aD⟩;simp [Qb,List.flatMap_def]
structure aaC (b:qb):Prop where
 f:IC b.1
 l:TK b.2
theorem abQ:Arg enc Tryz.prog w base 24 fun u=>∃ b:qb,u=.agg [hG b.1,Qb b.2]∧aaC b:=by
 intro v d p ae a2
 obtain ⟨u,a,b,us,rfl,aq,hu⟩:=abR (P:=Tryz.prog) (enc:=enc) (w:=w) (base:=base) (Qs:=[Lh,TM]) Tryz.underlying24 (by kernel_rfl) ⟨rfl,fun i f q aN bl=>by
  match i with
  | 0=>simp at aN bl;subst aN;subst bl;exact ⟨rfl,by kernel_rfl,QB⟩
  | 1=>simp at aN bl;subst aN;subst bl;exact ⟨rfl,by kernel_rfl,ab6⟩
  | i+2=>simp at bl⟩ v d p ae a2
 match us,aq with
 | [jd,aB],_ =>
   obtain ⟨x,rfl,al⟩:=hu 0 _ _ rfl rfl;obtain ⟨y,rfl,aZ⟩:=hu 1 _ _ rfl rfl;exact ⟨_,a,b,(x,y),rfl,al,aZ⟩
end
end Go.Proofs.YtfakoboiahbhaaaGreat.Ab


namespace Go.Proofs.YtfakoboiahbhaaaGreat.Ab
open Go
def QA:h9→h9→Bool
 | .shared,.shared=>true
 | .full,.full=>true
 | .own a,.own b=>Nat.beq a b
 | .uniq a,.uniq b=>Nat.beq a b
 | _,_=>false
theorem ab2:∀ {a b:h9},QA a b=true→a=b:=by
 intro a b h;cases a <;> cases b <;> simp only [QA,Bool.false_eq_true] at h <;> first | rfl | (rw [Nat.eq_of_beq_eq_true h])
def HU (f:I→I→Bool):List I→List I→Bool
 | [],[]=>true
 | a::l,b::r=>match f a b with
   | true=>HU f l r
   | false=>false
 | _,_=>false
theorem Jh {f:I→I→Bool} (aN:∀ a b,f a b=true→a=b):∀ {a b:List I},HU f a b=true→a=b
 | [],[],_=>rfl
 | [],_::_,h=>by simp [HU] at h
 | _::_,[],h=>by simp [HU] at h
 | a::l,b::r,h=>by
   simp only [HU] at h;split at h
   ·rename_i jn;rw [aN a b jn,Jh aN h]
   ·cases h
def Ht:Nat→I→I→Bool
 | 0,_,_=>false
 | d+1,a,b=>match a,b with
   | .bool x,.bool y=>match x,y with | true,true=>true | false,false=>true | _,_=>false
   | .int k x,.int q y=>match decide (k=q),decide (x=y) with | true,true=>true | _,_=>false
   | .eu,.eu=>true
   | .bT x,.bT y=>HU (Ht d) x y
   | .ax x n c,.ax y m e=>match HU (Ht d) x y,Nat.beq n m,QA c e with | true,true,true=>true | _,_,_=>false
   | .func f x y,.func g z w=>match Nat.beq f g,HU (Ht d) x z,HU (Ht d) y w with | true,true,true=>true | _,_,_=>false
   | .agg x,.agg y=>HU (Ht d) x y
   | .tuple x,.tuple y=>HU (Ht d) x y
   | _,_=>false
theorem Lm:∀ (d:Nat) (a b:I),Ht d a b=true→a=b
 | 0,_,_,h=>by simp [Ht] at h
 | d+1,a,b,h=>by
   have a9:=Lm d;unfold Ht at h;split at h
   ·split at h <;> first | rfl | cases h
   ·rename_i k x q y;split at h
    ·rename_i ad af;rw [of_decide_eq_true ad,of_decide_eq_true af]
    ·cases h
   ·rfl
   ·rw [Jh a9 h]
   ·split at h
    ·rename_i ad af aH;rw [Jh a9 ad,Nat.eq_of_beq_eq_true af,ab2 aH]
    ·cases h
   ·split at h
    ·rename_i ad af aH;rw [Nat.eq_of_beq_eq_true ad,Jh a9 af,Jh a9 aH]
    ·cases h
   ·rw [Jh a9 h]
   ·rw [Jh a9 h]
   ·cases h
inductive qL where
 | pure (k:Nat) (args:List I) (v:I)
 | map (k:Nat) (args:List I) (es:List (Nat×I×I)) (clock:Nat)
def qY (P:Program):qL→Prop
 | .pure k args v=>kW P k args v
 | .map k args es clock=>∀ H,Sem P (.fn k) args H H.length (.map H.length) (H++[.map es clock])
def look (k:Nat) (args:List I) (H:List au) (lo:Nat):List qL→Option (I×List au)
 | []=>none
 | .pure q bs v::r=>match Nat.beq k q with
   | true=>match HU (Ht 20) args bs with
     | true=>match H with
       | []=>some (v,[])
       | _=>look k args H lo r
     | false=>look k args H lo r
   | false=>look k args H lo r
 | .map q bs es clock::r=>match Nat.beq k q with
   | true=>match HU (Ht 20) args bs with
     | true=>match Nat.beq lo H.length with
       | true=>some (.map H.length,H++[.map es clock])
       | false=>look k args H lo r
     | false=>look k args H lo r
   | false=>look k args H lo r
def SZ (l:List qL):cc:=fun b1 args H lo=>match b1 with
 | .fn k=>look k args H lo l
 | _=>none
theorem Sem.aer {P:Program} {b1:eZ} {args:List I} {r:I} {H':List au} (h:Sem P b1 args [] 0 r H') (lo:Nat):Sem P b1 args [] lo r H' :=
 ⟨⟨h.1.1,fun _ _ h=>by simp at h⟩,h.2⟩
theorem look_ok {P:Program} {k:Nat} {args:List I} {H:List au} {lo:Nat} {r:I} {H':List au}:∀ {l:List qL},(∀ e∈l,qY P e)→look k args H lo l=some (r,H')→Sem P (.fn k) args H lo r H'
 | [],_,h=>by simp [look] at h
 | .pure q bs v::l,aq,h=>by
   have IT:=look_ok (k:=k) (args:=args) (H:=H) (lo:=lo) (r:=r) (H':=H') fun e he=>aq e (List.mem_cons_of_mem _ he);unfold look at h;split at h
   ·rename_i ad;split at h
    ·rename_i af;split at h
     ·cases h;have:=aq (.pure q bs r) List.mem_cons_self;rw [Nat.eq_of_beq_eq_true ad,Jh (Lm 20) af];exact this.1.aer lo
     ·exact IT h
    ·exact IT h
   ·exact IT h
 | .map q bs es clock::l,aq,h=>by
   have IT:=look_ok (k:=k) (args:=args) (H:=H) (lo:=lo) (r:=r) (H':=H') fun e he=>aq e (List.mem_cons_of_mem _ he);unfold look at h;split at h
   ·rename_i ad;split at h
    ·rename_i af;split at h
     ·rename_i aH;cases h;have:=aq (.map q bs es clock) List.mem_cons_self;rw [Nat.eq_of_beq_eq_true ad,Jh (Lm 20) af,Nat.eq_of_beq_eq_true aH];exact this H
     ·exact IT h
    ·exact IT h
   ·exact IT h
theorem ahI {P:Program} {l:List qL} (aq:∀ e∈l,qY P e):dn P (SZ l):=od fun b1 args H lo r H' h=>by
 cases b1 with
 | fn k=>exact look_ok aq h
 | yield i=>simp [SZ] at h
def JM (A:FuncId→c'):Nat→List Func→Bool
 | _,[]=>true
 | k,f::r=>match (A k).bad with
   | true=>JM A (k+1) r
   | false=>match f.body with
     | some c => match codeOk (A k) c, f.name == "runtime.NumGoroutine" with
       | true,false=>JM A (k+1) r
       | _,_=>false
     | none=>JM A (k+1) r
theorem Wg {A : FuncId → c'} : ∀ {l : List Func} {k : Nat}, JM A k l = true → ∀ (i : Nat) (f : Func) (c : Code), (A (k + i)).bad = false → l[i]? = some f → f.body = some c → codeOk (A (k + i)) c = true ∧ f.name ≠ "runtime.NumGoroutine"
 | [],_,_,i,f,c,_,h,_=>by simp at h
 | g::r,k,h,i,f,c,mP,aN,ak=>by
   unfold JM at h;cases i with
   | zero =>
     simp at aN;subst aN;rw [Nat.add_zero] at mP;rw [mP,ak] at h;simp only at h;split at h
     ·rename_i ad af;exact ⟨ad,by simpa using af⟩
     ·cases h
   | succ i =>
     have aj:JM A (k+1) r=true:=by
      split at h
      ·exact h
      ·split at h
       ·split at h
        ·exact h
        ·cases h
       ·exact h
     have:=Wg aj i f c (by rw [show k+1+i=k+(i+1) by omega];exact mP) (by simpa using aN) ak;rw [show k+(i+1)=k+1+i by omega];exact this
theorem afx {P : Program} {A : FuncId → c'} (h : JM A 0 P.funcs.toList = true) (k : Nat) (f : Func) (c : Code) (ag : (A k).bad = false) (aN : P.funcs[k]? = some f) (ak : f.body = some c) : codeOk (A k) c = true ∧ f.name ≠ "runtime.NumGoroutine" := by
 have:=Wg h k f c (by rw [Nat.zero_add];exact ag) (by simpa using aN) ak
 rwa [Nat.zero_add] at this
theorem abM:JM jg 0 Go.Proofs.Tryz.prog.funcs.toList=true:=by kernel_rfl
noncomputable def O2 (l:List qL) (k:Nat) (args:List I):Option I:=match fO Go.Proofs.Tryz.prog jg (SZ l) 300 (.fn k) args [] 0 with
 | some (r,a3)=>match bK a3 0 a3.length 0 8 r with
   | some v=>match cl 8 v.settle with
     | true=>some v.settle
     | false=>none
   | none=>none
 | none=>none
theorem Gd {l:List qL} (aq:∀ e∈l,qY Go.Proofs.Tryz.prog e) {k:Nat} {args:List I} {v:I} (h:O2 l k args=some v):kW Go.Proofs.Tryz.prog k args v:=by
 unfold O2 at h;split at h
 ·rename_i r a3 ak;split at h
  ·rename_i u aN;split at h
   ·rename_i aD;cases h;have ai:=(Ba dD jg (ahI aq) (afx abM) 300).FZ ak;refine ⟨⟨a_.refl _ _,ai.2.1,fun B U J S w xs ah aP ae=>CallsIn.mono (ai.2.2 B U J S w xs ah aP ae) fun e w' he=>?_⟩,aD⟩;cases e with
    | returned x =>
      have m6:=pL ah (fun id aE=>by simp at aE) aN he;show a0 B U J S w [] u.settle x w';cases u with
      | ax cells len gu =>
        cases gu with
        | uniq z=>exact m6.settle
        | _=>exact m6
      | _=>exact m6
    | panicked c=>exact he.elim
    | outgrown=>exact he.elim
   ·cases h
  ·cases h
 ·cases h
end Go.Proofs.YtfakoboiahbhaaaGreat.Ab


namespace Go.Proofs.YtfakoboiahbhaaaGreat.Ab
open Go
noncomputable def ags:eM :=
 .jO false [FO 5 0,FN 6 2,FO 7 2,gO 8 [.hD 7] (.conv .u64),gO 9 [.ij (.func 97 [] []),.sl 8] (.call 3),gO 10 [.ij (.func 96 [] []),.hA 5,.ij (.int .i64 0),.hA 6,.hA 9] (.call 1)]
noncomputable def WV:eM :=
 FY [FN 3 0,FK 4 3,FO 2 4] ags
theorem aem:yQ Go.Proofs.Tryz.prog Uw 73=some (WV,11,[]):=by kernel_rfl
noncomputable def SK:eM :=
 FY [FO 24 0,FO 25 1,FO 26 2,gO 27 [.ij (.func 115 [] []),.hA 24,.hA 25,.hA 26] (.call 1)] .ret
noncomputable def agB:eM :=
 FY [FO 30 0,FO 31 1,FO 32 2,gO 33 [.ij (.func 116 [] []),.hA 30,.hA 31,.hA 32] (.call 1)] .ret
noncomputable def agC:eM :=
 FY [FN 36 0,FN 37 1,FN 38 2,gO 39 [.ij (.func 117 [] []),.hA 36,.hA 37,.hA 38] (.call 1)] (FR [FO 40 3,Fm 41 40 1 .sub,FO 3 41])
noncomputable def agD:eM :=
 FY [FN 55 2,Fm 56 55 1 .sub,FO 57 11,FN 58 1,Fo 59 57 58 .sub,Fo 60 56 59 .sub,FO 11 60] (FR [FM 12 1])
noncomputable def agE:eM :=
 FY [FN 51 0,FN 52 1,FN 53 2,gO 54 [.ij (.func 119 [] []),.hA 51,.hA 52,.hA 53] (.call 1)] agD
noncomputable def agF:eM :=
 FY [FN 69 0,FN 70 1,FN 71 2,gO 72 [.ij (.func 120 [] []),.hA 69,.hA 70,.hA 71] (.call 1)] (.cond (.sl 72) .ret .skip)
noncomputable def agG:eM :=
 FY [FN 88 0,FO 89 1,FN 90 2,FO 91 11,gO 92 [.ij (.func 122 [] []),.hA 88,.hA 89,.hA 90,.hA 91] (.call 1),FO 13 92] (FY [FO 93 13,FO 1 93] (.exit 1))
noncomputable def agH:eM :=
 FY [FN 117 0,FO 118 1,FN 119 14,FN 120 3,gO 121 [.ij (.func 96 [] []),.hA 117,.hA 118,.hA 119,.hA 120] (.call 1)] (FR [FO 122 14,Fk 123 122 1,FO 1 123])
noncomputable def agI:eM :=
 FY [FO 114 16,FO 115 18,Fo 116 114 115 .geq,FO 8 116] agH
noncomputable def agt:eM :=
 FY [FN 127 0,FN 128 14,Fk 129 128 1,FO 130 2,FN 131 3,gO 132 [.ij (.func 96 [] []),.hA 127,.hA 129,.hA 130,.hA 131] (.call 1)] (FR [FO 133 14,FO 2 133])
noncomputable def agu:eM :=
 FY [FO 124 17,FO 125 18,Fo 126 124 125 .geq,FO 8 126] agt
noncomputable def agv:eM :=
 FY [FO 109 10,Fm 110 109 8 .quo,FO 18 110] (FY [FN 111 16,FN 112 17,Fo 113 111 112 .lss] (.cond (.sl 113) agI agu))
noncomputable def agw:eM :=
 FY [FN 103 14,FN 104 1,Fo 105 103 104 .sub,FN 106 2,FN 107 14,Fo 108 106 107 .sub,FO 16 105,FO 17 108] agv
noncomputable def agx:eM :=
 FY [FN 95 0,FN 96 1,FN 97 2,FO 98 11,gO 99 [.ij (.func 123 [] []),.hA 95,.hA 96,.hA 97,.hA 98] (.call 1),FO 94 99,F5 100 94 0,gO 101 [.hD 94] (.ext 1),FO 14 100,FO 15 101] (FY [FO 102 15,FO 9 102] agw)
noncomputable def agy:eM :=
 .seq (.seq (FT [FN 73 1,Fm 74 73 0 .gtr,FO 75 74,dZ 76 [.sl 0] 75 true .iH,dZ 77 [.sl 1] 75 true .iH,dZ 78 [.hD 77,.ij (.int .i64 1)] 75 true (.bin .sub),dZ 79 [.hD 76,.hD 78] 75 true (.pq 1),dZ 80 [.hD 79] 75 true (.px .one),dZ 81 [.sl 0] 75 true .iH,dZ 82 [.sl 11] 75 true .iH,dZ 83 [.hD 81,.hD 82] 75 true (.pq 1),dZ 84 [.hD 83] 75 true (.px .one),⟨some 85,[.ij (.func 121 [] []),.sl 80,.sl 84],some (75,true),none,.call 3⟩,dZ 86 [.hD 85] 75 true (.un .not),gO 87 [.sl 75,.hD 86,.ij (.bool false)] .pick]) (.cond (.sl 87) agG .skip)) agx
noncomputable def agz:eM :=
 .seq (FY [FN 61 8,FO 62 61,dZ 63 [.sl 9] 62 true .iH,gO 64 [.hD 62,.hD 63,.ij (.bool false)] .pick,FO 65 64,dZ 66 [.hA 12] 65 true .iH,dZ 67 [.hD 66,.ij (.int .i64 1)] 65 true (.bin .eql),gO 68 [.hD 65,.hD 67,.ij (.bool false)] .pick] (.cond (.sl 68) agF .skip)) agy
noncomputable def agA:eM :=
 FY [FN 43 0,FN 44 1,FN 45 2,gO 46 [.ij (.func 118 [] []),.hA 43,.hA 44,.hA 45] (.call 1),FO 42 46,F5 47 42 0,gO 48 [.hD 42] (.ext 1),FO 11 47,FO 12 48] (.seq (FY [FN 49 12,Fm 50 49 2 .eql] (.cond (.sl 50) agE .skip)) agz)
noncomputable def W2:eM :=
 .seq (FY [FN 28 3,Fm 29 28 0 .eql] (.cond (.sl 29) agB .skip)) (.seq (FY [FN 34 8,gO 35 [.hD 34] (.un .not)] (.cond (.sl 35) agC .skip)) agA)
noncomputable def SL:eM :=
 .block 1 (FY [FN 19 2,FN 20 1,Fo 21 19 20 .sub,FO 10 21] (.seq (FY [FN 22 10,Fm 23 22 12 .leq] (.cond (.sl 23) SK .skip)) W2))
noncomputable def W1:eM :=
 FY [gO 8 [.ij (.bool true)] .iH] (FY [gO 9 [.ij (.bool true)] .iH] (.block 0 (.loop (some (DX false [0,4,4,2,124])) SL)))
theorem aeq:yQ Go.Proofs.Tryz.prog UD 96=some (W1,134,[]):=by kernel_rfl
noncomputable def afZ:eM :=
 .block 3 (FT [FN 33 0,FN 34 7,FN 35 0,FN 36 7,Fm 37 36 1 .sub,FN 38 0,FN 39 7,Fm 40 39 1 .sub,FH 41 38 40 1,FL 42 41,FN 43 0,FN 44 7,FH 45 43 44 1,FL 46 45,FH 47 33 34 1,⟨none,[.hA 47,.hA 42],none,none,.st 1⟩,FH 48 35 37 1,⟨none,[.hA 48,.hA 46],none,none,.st 1⟩])
noncomputable def af0:eM :=
 .seq (.seq (FT [FN 16 7,FN 17 1,Fo 18 16 17 .gtr,FO 19 18,dZ 20 [.sl 0] 19 true .iH,dZ 21 [.sl 7] 19 true .iH,dZ 22 [.hD 20,.hD 21] 19 true (.pq 1),dZ 23 [.hD 22] 19 true (.px .one),dZ 24 [.sl 0] 19 true .iH,dZ 25 [.sl 7] 19 true .iH,dZ 26 [.hD 25,.ij (.int .i64 1)] 19 true (.bin .sub),dZ 27 [.hD 24,.hD 26] 19 true (.pq 1),dZ 28 [.hD 27] 19 true (.px .one),⟨some 29,[.ij (.func 121 [] []),.sl 23,.sl 28],some (19,true),none,.call 3⟩,gO 30 [.sl 19,.hD 29,.ij (.bool false)] .pick]) (.cond (.sl 30) .skip (.exit 2))) (.seq afZ (FR [FO 31 7,Fm 32 31 1 .sub,FO 7 32]))
noncomputable def af1:eM :=
 .block 1 (FY [FN 15 6,FO 7 15] (.block 2 (.loop (some (DX false [0,3,3,2,41])) af0)))
noncomputable def af2:eM :=
 .seq (FY [FN 10 6,FN 11 2,Fo 12 10 11 .lss] (.cond (.sl 12) .skip (.exit 0))) (.seq af1 (FR [FO 13 6,Fk 14 13 1,FO 6 14]))
noncomputable def WR:eM :=
 FY [FN 8 1,Fk 9 8 1,FO 6 9] (.block 0 (.loop (some (DX false [0,3,3,1,42])) af2))
theorem aei:yQ Go.Proofs.Tryz.prog T4 115=some (WR,49,[]):=by kernel_rfl
noncomputable def af3:eM :=
 FY [FN 5 0,gO 6 [.ij (.func 137 [] []),.sl 5] (.call 3),FO 7 6,dZ 8 [.sl 1] 7 true .iH,⟨some 9,[.ij (.func 137 [] []),.sl 8],some (7,true),none,.call 3⟩,dZ 10 [.hD 9] 7 true (.un .not),gO 11 [.hD 7,.hD 10,.ij (.bool false)] .pick,FO 12 11,dZ 13 [.hA 0] 12 false .iH,dZ 14 [.hA 1] 12 false .iH,dZ 15 [.hD 13,.hD 14] 12 false (.bin .lss),gO 16 [.hD 12,.ij (.bool true),.hD 15] .pick,FO 4 16] .ret
noncomputable def WS:eM :=
 FY [gO 4 [.ij (.bool false)] .iH] af3
theorem aej:yQ Go.Proofs.Tryz.prog T5 121=some (WS,17,[.tmp 4]):=by kernel_rfl
noncomputable def agn:eM :=
 FY [FN 3 0,FO 4 0,Fo 5 3 4 .neq,FO 2 5] .ret
noncomputable def WU:eM :=
 FY [gO 2 [.ij (.bool false)] .iH] agn
theorem ael:yQ Go.Proofs.Tryz.prog T' 137=some (WU,6,[.tmp 2]):=by kernel_rfl
end Go.Proofs.YtfakoboiahbhaaaGreat.Ab


namespace Go.Proofs.YtfakoboiahbhaaaGreat.Ab
open Go
set_option maxRecDepth 20000
set_option maxHeartbeats 4000000
theorem aea (x:Int):qC 137 [hG x] (B false):=by
 refine Fv dD ael rfl rfl ?_;unfold WU;conv=>whnf
 exact FV (.inr rfl) rfl (by rw [decide_eq_false (show ¬ (x≠x) from fun h=>h rfl)];rfl)
theorem aef (x y:Int):qC 121 [hG x,hG y] (B (decide (x<y))):=by
 refine Fv dD aej rfl rfl ?_;unfold WS;conv=>whnf
 refine ⟨by first | rfl | simp only [List.all_cons,List.all_nil,M6,Nc,M7,M9,M8,M_,Nf,Nd,JN,M',Na,Nb,Bool.and_true,Bool.and_self],_,aea x,?_⟩
 conv=>whnf
 exact FV (.inr rfl) rfl rfl
def IA (d:Array Int):au:=.cells (d.toList.map hG)
def Hr (id n:Nat):I:=.ref id 0 n none 1
theorem ab3 (d:Array Int) (x:Nat) (h:x<d.size):(d.toList.map hG)[x]?=some (hG d[x]!):=by
 simp [h]
theorem ab4 (d:Array Int) (x:Nat) (v:Int):(d.toList.map hG).set x (hG v)=(d.setIfInBounds x v).toList.map hG:=by
 simp [List.map_set]
theorem swp_size (d:Array Int) (i j:Nat):(Sort.swp d i j).size=d.size:=by simp [Sort.swp]
theorem O0 {d:Array Int} {n:Nat} (x:Nat) (e:n=x) (h:x<d.size) {K:I→Prop} (k:K (hG d[x]!)):eJ (d.toList.map hG) n K:=by
 subst e;exact Dj (ab3 d n h) k
theorem YB {d:Array Int} {n:Nat} {v:Int} (x:Nat) (e:n=x) (h:x<d.size) {K:List I→Prop} (k:K ((d.setIfInBounds x v).toList.map hG)):iV (d.toList.map hG) n (hG v) K:=by
 subst e;refine E7 (by simpa using h) ?_;rw [ab4];exact k
section
variable {H:List au} {id lo:Nat} (bF:lo≤id)
include bF
theorem ad_ (d:Array Int) (a b:Nat) (a2:d.size≤1000) (cu:a≤b) (ag:b≤d.size) (ah:H[id]?=some (IA d)) :
  Sem Go.Proofs.Tryz.prog (.fn 115) [Hr id d.size,hG a,hG b] H lo (.tuple []) (H.set id (IA (Sort.insertionSort Sort.ltInt d a b))):=by
 have aE:=(List.getElem?_eq_some_iff.1 ah).1;refine QK dD aei rfl ⟨by simp,fun j ad af=>by rw [List.getElem?_set_ne (by omega)]⟩ ?_;unfold WR;conv=>whnf
 have Bz:Nat.ble lo id=true:=Nat.ble_eq_true_of_le bF;have gs:∀ c:au,(H.set id c)[id]?=some c:=fun c=>by rw [List.getElem?_set_self aE]
 have HO:∀ c e:au,((H.set id c).set id e)[id]?=some e:=fun c e=>by rw [List.set_set,gs]
 rw [rW a (by omega)];refine .intro (fun m T H'=>∃ i gR,a+1≤i∧(i≤b∨i=a+1)∧m=b+1-i∧gR.size=d.size∧Sort.insOuter Sort.ltInt a b i gR=Sort.insertionSort Sort.ltInt d a b∧T=F2 49 [(0,Hr id d.size),(1,hG a),(2,hG b),(6,hG i)]∧H'=H.set id (IA gR)) (b-a) ⟨a+1,d,by omega,.inr rfl,by omega,rfl,rfl,rfl,?_⟩ ?_
 ·obtain ⟨ad,af⟩:=List.getElem?_eq_some_iff.1 ah;rw [←af,List.set_getElem_self]
 rintro m T H' ⟨i,gR,adv,adw,rfl,BJ,he,rfl,rfl⟩;conv=>whnf
 refine Hj (fun h=>?_) (fun h=>?_)
 ·conv=>whnf
  refine .intro (fun j T H'=>∃ rN:Array Int,j≤i∧rN.size=d.size∧Sort.insInner Sort.ltInt a j rN=Sort.insInner Sort.ltInt a i gR∧T=F2 49 [(0,Hr id d.size),(1,hG a),(2,hG b),(6,hG i),(7,hG j)]∧H'=H.set id (IA rN)) i ⟨gR,Nat.le_refl _,BJ,rfl,rfl,rfl⟩ ?_;rintro j T H' ⟨rN,az,Kj,Kk,rfl,rfl⟩;conv=>whnf
  by_cases aH:(a:Int)<(j:Int)
  ·rw [decide_eq_true aH];obtain ⟨q,rfl⟩:∃ q,j=q+1:=⟨j-1,by omega⟩;(have hw:IntKind.i64.wrap (((q+1:Nat):Int)-1)=(q:Int):=by rw [Ib _ (by omega) (by omega)];omega);(conv=>whnf);refine ⟨by omega,?_⟩;(conv=>whnf);refine Dj (by first | exact gs _ | exact HO _ _ | assumption) ?_
   (conv=>whnf);refine O0 (q+1) (by omega) (by omega) ?_;(conv=>whnf);rw [hw];refine ⟨by omega,?_⟩;(conv=>whnf);refine Dj (by first | exact gs _ | exact HO _ _ | assumption) ?_
   (conv=>whnf);refine O0 (q) (by omega) (by omega) ?_;(conv=>whnf);refine ⟨by first | rfl | simp only [List.all_cons,List.all_nil,M6,Nc,M7,M9,M8,M_,Nf,Nd,JN,M',Na,Nb,Bool.and_true,Bool.and_self],_,aef rN[q+1]! rN[q]!,F7,?_⟩
   (conv=>whnf);by_cases bh:rN[q+1]!<rN[q]!
   ·rw [decide_eq_true bh];(conv=>whnf);rw [hw];refine ⟨by omega,?_⟩;(conv=>whnf);refine Dj (by first | exact gs _ | exact HO _ _ | assumption) ?_
    (conv=>whnf);refine O0 (q) (by omega) (by omega) ?_;(conv=>whnf);refine ⟨by omega,?_⟩;(conv=>whnf);refine Dj (by first | exact gs _ | exact HO _ _ | assumption) ?_
    (conv=>whnf);refine O0 (q+1) (by omega) (by omega) ?_;(conv=>whnf);refine ⟨by omega,?_⟩;(conv=>whnf);rw [Bz];(conv=>whnf);refine Dj (by first | exact gs _ | exact HO _ _ | assumption) ?_
    (conv=>whnf);refine YB (q+1) (by omega) (by first | omega | (simp only [Array.size_setIfInBounds];omega)) ?_
    (conv=>whnf);refine ⟨by omega,?_⟩;(conv=>whnf);rw [Bz];(conv=>whnf);refine Dj (by first | exact gs _ | exact HO _ _ | assumption) ?_
    (conv=>whnf);refine YB (q) (by omega) (by first | omega | (simp only [Array.size_setIfInBounds];omega)) ?_
    (conv=>whnf);refine ⟨q,by omega,Sort.swp rN (q+1) q,by omega,by rw [swp_size];exact Kj,?_,?_,?_⟩
    ·rw [←Kk,Sort.insInner,if_pos (by simp only [Sort.ltInt,Bool.and_eq_true,decide_eq_true_eq];exact ⟨by omega,bh⟩)]
    ·rw [hw];rfl
    ·simp only [List.set_set];rfl
   ·rw [decide_eq_false bh];(conv=>whnf);have e:Sort.insInner Sort.ltInt a i gR=rN:=by
     rw [←Kk,Sort.insInner,if_neg (by simp only [Sort.ltInt,Bool.and_eq_true,decide_eq_true_eq];exact fun bJ=>bh bJ.2)]
    exact ⟨b+1-(i+1),by omega,i+1,rN,by omega,by omega,rfl,Kj,by rw [←he,Sort.insOuter.eq_1 _ a b i,if_pos (by omega),e],by rw [←rW i (by omega)];rfl,rfl⟩
  ·rw [decide_eq_false aH];(conv=>whnf);have e:Sort.insInner Sort.ltInt a i gR=rN:=by
    rw [←Kk];cases j with
    | zero=>rfl
    | succ q=>rw [Sort.insInner,if_neg (by simp only [Bool.and_eq_true,decide_eq_true_eq];exact fun bJ=>by omega)]
   exact ⟨b+1-(i+1),by omega,i+1,rN,by omega,by omega,rfl,Kj,by rw [←he,Sort.insOuter.eq_1 _ a b i,if_pos (by omega),e],by rw [←rW i (by omega)];rfl,rfl⟩
 ·conv=>whnf
  have e:Sort.insertionSort Sort.ltInt d a b=gR:=by
   rw [←he];unfold Sort.insOuter;rw [if_neg (by omega)]
  rw [e];exact ⟨.inl rfl,⟨by simp,fun j o az=>.inr az⟩,rfl⟩
theorem aha {l:List au} {i:Nat} {x:au} (h:l[i]?=some x):l.set i x=l:=by
 obtain ⟨ad,af⟩:=List.getElem?_eq_some_iff.1 h;rw [←af,List.set_getElem_self]
theorem afM (d:Array Int) (JK:Int) (a2:d.size≤12) (ah:H[id]?=some (IA d)) :
  Sem Go.Proofs.Tryz.prog (.fn 96) [Hr id d.size,hG 0,hG d.size,hG JK] H lo (.tuple []) (H.set id (IA (Sort.insertionSort Sort.ltInt d 0 d.size))):=by
 refine G0 dD aeq rfl ⟨by simp,fun j ad af=>by rw [List.getElem?_set_ne (by omega)]⟩ fun Q bz=>?_;unfold W1;obtain ⟨US,JC⟩:∃ c,SL=c:=⟨_,rfl⟩;rw [JC];conv=>whnf
 refine .intro (fun m T H'=>T=F2 134 [(0,Hr id d.size),(1,hG 0),(2,hG d.size),(3,hG JK),(8,B true),(9,B true)]∧H'=H) 0 ⟨rfl,rfl⟩ ?_;rintro m T H' ⟨rfl,rfl⟩;subst JC;unfold SL;obtain ⟨a',cn⟩:∃ c,SK=c:=⟨_,rfl⟩;obtain ⟨UR,MC⟩:∃ c,W2=c:=⟨_,rfl⟩;rw [cn,MC];conv=>whnf
 rw [show IntKind.i64.wrap ((d.size:Int)-0)=(d.size:Int) by rw [Ib _ (by omega) (by omega)];omega,decide_eq_true (show (d.size:Int)≤12 by omega)];conv=>whnf
 subst cn;unfold SK;conv=>whnf
 refine ⟨_,_,G9 (ad_ bF d 0 d.size (by omega) (Nat.zero_le _) (Nat.le_refl _) ah),?_⟩;conv=>whnf
 exact bz _ _ _ ⟨.inr rfl,⟨rfl,fun j o az=>.inr az⟩,rfl⟩
end
theorem YD (n:Int):IntKind.u64.wrap n=n % 18446744073709551616:=by simp [IntKind.wrap,IntKind.bits,IntKind.signed]
theorem aee:((List.range 13).all fun n=>match O2 [] 97 [.int .u64 (n:Nat)] with | some v=>Ht 3 v (hG (Sort.bitsLen n)) | none=>false)=true:=by kernel_rfl
theorem Qw (n:Nat) (h:n≤12):qC 97 [.int .u64 n] (hG (Sort.bitsLen n)):=by
 have:=List.all_eq_true.1 aee n (List.mem_range.2 (by omega));split at this
 ·rename_i v ae;rw [Lm _ _ _ this] at ae;exact Gd (l:=[]) (by simp) ae
 ·cases this
theorem ahc {H:List au} {id lo:Nat} (bF:lo≤id) (d:Array Int) (a2:d.size≤12) (ah:H[id]?=some (IA d)) :
  Sem Go.Proofs.Tryz.prog (.fn 73) [Hr id d.size] H lo (.tuple []) (H.set id (IA (Sort.insertionSort Sort.ltInt d 0 d.size))):=by
 refine G0 dD aem rfl ⟨by simp,fun j ad af=>by rw [List.getElem?_set_ne (by omega)]⟩ fun Q bz=>?_;unfold WV;conv=>whnf
 rw [show IntKind.u64.wrap (d.size:Int)=(d.size:Int) by rw [YD];omega];refine ⟨by first | rfl | simp only [List.all_cons,List.all_nil,M6,Nc,M7,M9,M8,M_,Nf,Nd,JN,M',Na,Nb,Bool.and_true,Bool.and_self],_,Qw d.size a2,?_⟩
 conv=>whnf
 refine ⟨_,_,G9 (afM bF d (Sort.bitsLen d.size) a2 ah),?_⟩;conv=>whnf
 exact bz _ _ _ ⟨.inl rfl,⟨rfl,fun j o az=>.inr az⟩,rfl⟩
end Go.Proofs.YtfakoboiahbhaaaGreat.Ab


namespace Go.Proofs.YtfakoboiahbhaaaGreat.Ab
open Go
noncomputable def afY:eM :=
 .jO false [FO 7 0,FN 8 4,FO 9 4,gO 10 [.hD 9] (.conv .u64),gO 11 [.ij (.func 97 [] []),.sl 10] (.call 3),FO 12 1,gO 13 [.ij (.func 127 [] []),.hA 7,.ij (.int .i64 0),.hA 8,.hA 11,.hA 12] (.call 1)]
noncomputable def RX:eM :=
 FY [FN 5 0,FK 6 5,FO 4 6] afY
theorem V3:yQ Go.Proofs.Tryz.prog TV 102=some (RX,14,[]):=by kernel_rfl
noncomputable def Np:eM :=
 FY [FO 26 0,FO 27 1,FO 28 2,FO 29 4,gO 30 [.ij (.func 138 [] []),.hA 26,.hA 27,.hA 28,.hA 29] (.call 1)] .ret
noncomputable def age:eM :=
 FY [FO 33 0,FO 34 1,FO 35 2,FO 36 4,gO 37 [.ij (.func 139 [] []),.hA 33,.hA 34,.hA 35,.hA 36] (.call 1)] .ret
noncomputable def agf:eM :=
 FY [FN 40 0,FN 41 1,FN 42 2,FN 43 4,gO 44 [.ij (.func 140 [] []),.hA 40,.hA 41,.hA 42,.hA 43] (.call 1)] (FR [FO 45 3,Fm 46 45 1 .sub,FO 3 46])
noncomputable def agh:eM :=
 FY [FN 62 2,Fm 63 62 1 .sub,FO 64 13,FN 65 1,Fo 66 64 65 .sub,Fo 67 63 66 .sub,FO 13 67] (FR [FM 14 1])
noncomputable def agi:eM :=
 FY [FN 57 0,FN 58 1,FN 59 2,FN 60 4,gO 61 [.ij (.func 142 [] []),.hA 57,.hA 58,.hA 59,.hA 60] (.call 1)] agh
noncomputable def agj:eM :=
 FY [FN 76 0,FN 77 1,FN 78 2,FN 79 4,gO 80 [.ij (.func 143 [] []),.hA 76,.hA 77,.hA 78,.hA 79] (.call 1)] (.cond (.sl 80) .ret .skip)
noncomputable def agk:eM :=
 FY [FN 98 0,FO 99 1,FN 100 2,FO 101 13,FN 102 4,gO 103 [.ij (.func 144 [] []),.hA 98,.hA 99,.hA 100,.hA 101,.hA 102] (.call 1),FO 15 103] (FY [FO 104 15,FO 1 104] (.exit 1))
noncomputable def agl:eM :=
 FY [FN 129 0,FO 130 1,FN 131 16,FN 132 3,FN 133 4,gO 134 [.ij (.func 127 [] []),.hA 129,.hA 130,.hA 131,.hA 132,.hA 133] (.call 1)] (FR [FO 135 16,Fk 136 135 1,FO 1 136])
noncomputable def agm:eM :=
 FY [FO 126 18,FO 127 20,Fo 128 126 127 .geq,FO 10 128] agl
noncomputable def af7:eM :=
 FY [FN 140 0,FN 141 16,Fk 142 141 1,FO 143 2,FN 144 3,FN 145 4,gO 146 [.ij (.func 127 [] []),.hA 140,.hA 142,.hA 143,.hA 144,.hA 145] (.call 1)] (FR [FO 147 16,FO 2 147])
noncomputable def af8:eM :=
 FY [FO 137 19,FO 138 20,Fo 139 137 138 .geq,FO 10 139] af7
noncomputable def af9:eM :=
 FY [FO 121 12,Fm 122 121 8 .quo,FO 20 122] (FY [FN 123 18,FN 124 19,Fo 125 123 124 .lss] (.cond (.sl 125) agm af8))
noncomputable def af_:eM :=
 FY [FN 115 16,FN 116 1,Fo 117 115 116 .sub,FN 118 2,FN 119 16,Fo 120 118 119 .sub,FO 18 117,FO 19 120] af9
noncomputable def aga:eM :=
 FY [FN 106 0,FN 107 1,FN 108 2,FO 109 13,FN 110 4,gO 111 [.ij (.func 145 [] []),.hA 106,.hA 107,.hA 108,.hA 109,.hA 110] (.call 1),FO 105 111,F5 112 105 0,gO 113 [.hD 105] (.ext 1),FO 16 112,FO 17 113] (FY [FO 114 17,FO 11 114] af_)
noncomputable def agb:eM :=
 .seq (.seq (FT [FN 81 1,Fm 82 81 0 .gtr,FO 83 82,dZ 84 [.sl 4] 83 true .iH,dZ 85 [.sl 0] 83 true .iH,dZ 86 [.sl 1] 83 true .iH,dZ 87 [.hD 86,.ij (.int .i64 1)] 83 true (.bin .sub),dZ 88 [.hD 85,.hD 87] 83 true (.pq 1),dZ 89 [.hD 88] 83 true (.px .one),dZ 90 [.sl 0] 83 true .iH,dZ 91 [.sl 13] 83 true .iH,dZ 92 [.hD 90,.hD 91] 83 true (.pq 1),dZ 93 [.hD 92] 83 true (.px .one),dZ 94 [.sl 84,.sl 89,.sl 93] 83 true (.call 6),dZ 95 [.hD 94,.ij (.int .i64 0)] 83 true (.bin .lss),dZ 96 [.hD 95] 83 true (.un .not),gO 97 [.sl 83,.hD 96,.ij (.bool false)] .pick]) (.cond (.sl 97) agk .skip)) aga
noncomputable def agc:eM :=
 .seq (FY [FN 68 10,FO 69 68,dZ 70 [.sl 11] 69 true .iH,gO 71 [.hD 69,.hD 70,.ij (.bool false)] .pick,FO 72 71,dZ 73 [.hA 14] 72 true .iH,dZ 74 [.hD 73,.ij (.int .i64 1)] 72 true (.bin .eql),gO 75 [.hD 72,.hD 74,.ij (.bool false)] .pick] (.cond (.sl 75) agj .skip)) agb
noncomputable def agd:eM :=
 FY [FN 48 0,FN 49 1,FN 50 2,FN 51 4,gO 52 [.ij (.func 141 [] []),.hA 48,.hA 49,.hA 50,.hA 51] (.call 1),FO 47 52,F5 53 47 0,gO 54 [.hD 47] (.ext 1),FO 13 53,FO 14 54] (.seq (FY [FN 55 14,Fm 56 55 2 .eql] (.cond (.sl 56) agi .skip)) agc)
noncomputable def Sl:eM :=
 .seq (FY [FN 31 3,Fm 32 31 0 .eql] (.cond (.sl 32) age .skip)) (.seq (FY [FN 38 10,gO 39 [.hD 38] (.un .not)] (.cond (.sl 39) agf .skip)) agd)
noncomputable def Nq:eM :=
 .block 1 (FY [FN 21 2,FN 22 1,Fo 23 21 22 .sub,FO 12 23] (.seq (FY [FN 24 12,Fm 25 24 12 .leq] (.cond (.sl 25) Np .skip)) Sl))
noncomputable def Sk:eM :=
 FY [gO 10 [.ij (.bool true)] .iH] (FY [gO 11 [.ij (.bool true)] .iH] (.block 0 (.loop (some (DX false [0,5,5,2,136])) Nq)))
theorem V8:yQ Go.Proofs.Tryz.prog T7 127=some (Sk,148,[]):=by kernel_rfl
noncomputable def ago:eM :=
 .block 3 (FT [FN 37 0,FN 38 9,FN 39 0,FN 40 9,Fm 41 40 1 .sub,FN 42 0,FN 43 9,Fm 44 43 1 .sub,FH 45 42 44 1,FL 46 45,FN 47 0,FN 48 9,FH 49 47 48 1,FL 50 49,FH 51 37 38 1,⟨none,[.hA 51,.hA 46],none,none,.st 1⟩,FH 52 39 41 1,⟨none,[.hA 52,.hA 50],none,none,.st 1⟩])
noncomputable def agp:eM :=
 .seq (.seq (FT [FN 18 9,FN 19 1,Fo 20 18 19 .gtr,FO 21 20,dZ 22 [.sl 3] 21 true .iH,dZ 23 [.sl 0] 21 true .iH,dZ 24 [.sl 9] 21 true .iH,dZ 25 [.hD 23,.hD 24] 21 true (.pq 1),dZ 26 [.hD 25] 21 true (.px .one),dZ 27 [.sl 0] 21 true .iH,dZ 28 [.sl 9] 21 true .iH,dZ 29 [.hD 28,.ij (.int .i64 1)] 21 true (.bin .sub),dZ 30 [.hD 27,.hD 29] 21 true (.pq 1),dZ 31 [.hD 30] 21 true (.px .one),dZ 32 [.sl 22,.sl 26,.sl 31] 21 true (.call 6),dZ 33 [.hD 32,.ij (.int .i64 0)] 21 true (.bin .lss),gO 34 [.sl 21,.hD 33,.ij (.bool false)] .pick]) (.cond (.sl 34) .skip (.exit 2))) (.seq ago (FR [FO 35 9,Fm 36 35 1 .sub,FO 9 36]))
noncomputable def agq:eM :=
 .block 1 (FY [FN 17 8,FO 9 17] (.block 2 (.loop (some (DX false [0,4,4,2,43])) agp)))
noncomputable def agr:eM :=
 .seq (FY [FN 12 8,FN 13 2,Fo 14 12 13 .lss] (.cond (.sl 14) .skip (.exit 0))) (.seq agq (FR [FO 15 8,Fk 16 15 1,FO 8 16]))
noncomputable def Sp:eM :=
 FY [FN 10 1,Fk 11 10 1,FO 8 11] (.block 0 (.loop (some (DX false [0,4,4,1,44])) agr))
theorem V9:yQ Go.Proofs.Tryz.prog Ua 138=some (Sp,53,[]):=by kernel_rfl
noncomputable def af4:eM :=
 FY [FN 11 1,FN 12 0,FN 13 5,FH 14 12 13 1,FL 15 14,gO 16 [.sl 11,.sl 15] (.call 6)] (.cond (.sl 16) (FY [FO 17 5,FO 4 17] .ret) .skip)
noncomputable def af5:eM :=
 .block 1 (FY [FN 10 8,FO 5 10] af4)
noncomputable def af6:eM :=
 .seq (FY [FN 6 0,FK 7 6,FM 8 0] (.block 0 (.loop (some (DX false [0,2,5,2,10])) (FY [gO 9 [.sl 8,.sl 7] (.bin .lss)] (.seq (.cond (.sl 9) .skip (.exit 0)) (.seq af5 (FR [Fk 18 8 1,FO 8 18]))))))) (FY [FM 4 (-1)] .ret)
noncomputable def Sj:eM :=
 FY [FM 4 0] af6
theorem V7:yQ Go.Proofs.Tryz.prog T6 126=some (Sj,19,[.tmp 4]):=by kernel_rfl
noncomputable def Nj:eM :=
 FY [FN 30 0,FN 31 5,FO 32 7,FH 33 30 31 1,⟨none,[.hA 33,.hA 32],none,none,.st 1⟩] (FR [FO 34 5,Fk 35 34 1,FO 5 35])
noncomputable def Nk:eM :=
 FY [FN 26 1,FN 27 7,gO 28 [.sl 26,.sl 27] (.call 6),gO 29 [.hD 28] (.un .not)] (.cond (.sl 29) Nj .skip)
noncomputable def Sb:eM :=
 .block 1 (FY [FN 22 0,FN 23 6,FH 24 22 23 1,FL 25 24,FO 7 25] Nk)
noncomputable def Nl:eM :=
 .seq (FY [FN 16 6,FN 17 0,FK 18 17,Fo 19 16 18 .lss] (.cond (.sl 19) .skip (.exit 0))) (.seq Sb (FR [FO 20 6,Fk 21 20 1,FO 6 21]))
noncomputable def Nm:eM :=
 FY [FO 39 0,FO 40 5,gO 41 [.hA 39,.hA 40] (.Ap 1 false true false),FO 4 41] .ret
noncomputable def Nn:eM :=
 FY [FN 36 0, FN 37 5, gO 38 [.hA 36, .hA 37] (.Ap 1 true false false), ⟨none, [.hA 38], none, none, .other (Oper.mk none (Op.call (Call.mk (Callee.builtin Builtin.clear) (Array.mk [Operand.tmp 38]) (Array.mk [38]))) 0 "slices.go:253" (Array.mk [Edge.mk 2 Ground.data]) none) 0⟩] Nm
noncomputable def No:eM :=
 .seq (FY [FN 11 5,Fm 12 11 (-1) .eql] (.cond (.sl 12) (FY [FO 13 0,FO 4 13] .ret) .skip)) (.seq (FY [FN 14 5,Fk 15 14 1,FO 6 15] (.block 0 (.loop (some (DX false [0,2,3,2,35])) Nl))) Nn)
noncomputable def Sc:eM :=
 FY [⟨some 8,[.hA 0],none,some 0,.Aw⟩,FN 9 1,gO 10 [.ij (.func 114 [] []),.sl 8,.sl 9] (.call 6),FO 5 10] No
noncomputable def Sa:eM :=
 FY [gO 4 [.ij (.ax [] 0 .full)] (.nil 1)] Sc
theorem V6:yQ Go.Proofs.Tryz.prog TY 107=some (Sa,42,[.tmp 4]):=by kernel_rfl
end Go.Proofs.YtfakoboiahbhaaaGreat.Ab


namespace Go.Proofs.YtfakoboiahbhaaaGreat.Ab
open Go
set_option maxRecDepth 20000
set_option maxHeartbeats 4000000
noncomputable def ZE:eM :=
 FY [FM 4 0] (.seq (FT [FO 5 0,gO 6 [.hD 5,.ij (.int .i64 0)] (.pq 1),FL 7 6,FO 8 1,gO 9 [.hD 8,.ij (.int .i64 0)] (.pq 1),FL 10 9,Fo 11 7 10 .sub,FO 4 11]) .ret)
theorem aet:yQ Tryz.prog TW 103=some (ZE,12,[.tmp 4]):=by kernel_rfl
def Tc (x y:qa):Option Int :=
 qd (0≤(0:Int)∧(0:Int)<(x.length:Int)) <|
 qd (0≤(0:Int)∧(0:Int)<(y.length:Int)) <|
 some (w ((ix x (0:Int))-(ix y (0:Int))))
theorem aiA {x:qa} {y:qa} {v:Int} (h:Tc x y=some v):qC 103 [(.ax (x.map hG) x.length .shared),(.ax (y.map hG) y.length .shared)] (hG v):=by
 refine qN dD aet rfl rfl fun Q bz=>?_;have lj:qE [.tmp 4] Q (fun v=>(hG v)) v:=fun T H bJ=>bz _ T H bJ;unfold Tc at h;unfold ZE;conv=>whnf
 refine qy h id fun eQ h=>?_;rw [rA hG x (0:Int) eQ];conv=>whnf
 refine qy h id fun fi h=>?_;rw [rA hG y (0:Int) fi];conv=>whnf
 exact qj h lj rfl rfl

theorem ahp (d:Array (List Int)) (i j:Nat):(Sort.swp d i j).size=d.size:=by simp [Sort.swp]
theorem swp_get (d:Array (List Int)) (i j x:Nat) (hi:i<d.size) (az:j<d.size):∃ y,y<d.size∧(x<d.size→(Sort.swp d i j)[x]! = d[y]!):=by
 by_cases al:x<d.size
 ·by_cases af:x=j
  ·exact ⟨i,hi,fun _=>by subst af;simp [Sort.swp,az]⟩
  ·by_cases ad:x=i
   ·exact ⟨j,az,fun _=>by subst ad;simp [Sort.swp,hi,Array.getElem_setIfInBounds,Ne.symm af]⟩
   ·exact ⟨x,al,fun _=>by simp [Sort.swp,al,Array.getElem_setIfInBounds,Ne.symm ad,Ne.symm af]⟩
 ·exact ⟨i,hi,fun h=>absurd h al⟩
def IB (g:Nat) (d:Array (List Int)):au:=.grow (d.toList.map i') g 1
theorem ab8 (d:Array (List Int)) (x:Nat) (h:x<d.size):(d.toList.map i')[x]?=some (i' d[x]!):=by
 simp [h]
theorem ab9 (d:Array (List Int)) (x:Nat) (v:List Int):(d.toList.map i').set x (i' v)=(d.setIfInBounds x v).toList.map i':=by
 simp [List.map_set]
theorem O1 {d:Array (List Int)} {n:Nat} (x:Nat) (e:n=x) (h:x<d.size) {K:I→Prop} (k:K (i' d[x]!)):eJ (d.toList.map i') n K:=by
 subst e;exact Dj (ab8 d n h) k
theorem YC {d:Array (List Int)} {n:Nat} {v:List Int} (x:Nat) (e:n=x) (h:x<d.size) {K:List I→Prop} (k:K ((d.setIfInBounds x v).toList.map i')):iV (d.toList.map i') n (i' v) K:=by
 subst e;refine E7 (by simpa using h) ?_;rw [ab9];exact k
def Jv (l:List Int):Prop:=l≠[]∧0≤ix l 0∧ix l 0≤1000
def G6 (x y:List Int):Bool:=decide (ix x 0<ix y 0)
theorem acf {x y:List Int} (al:Jv x) (aZ:Jv y):∃ r:Int,qC 103 [i' x,i' y] (hG r)∧decide (r<0)=G6 x y:=by
 refine ⟨ix x 0-ix y 0,aiA ?_,?_⟩
 ·have ad:=List.length_pos_iff.2 al.1;have af:=List.length_pos_iff.2 aZ.1;rw [Tc,qp ⟨by omega,by omega⟩,qp ⟨by omega,by omega⟩,Ia (by have:=al.2;have:=aZ.2;omega)]
 ·unfold G6;congr 1;exact propext (by omega)
section
variable {H:List au} {id lo g:Nat} (bF:lo≤id)
include bF
theorem ad9 (d:Array (List Int)) (a b:Nat) (a2:d.size≤1000) (cu:a≤b) (ag:b≤d.size) (ah:H[id]?=some (IB g d)) (MJ:∀ x,x<d.size→Jv d[x]!) :
  Sem Go.Proofs.Tryz.prog (.fn 138) [Hr id d.size,hG a,hG b,.func 103 [] []] H lo (.tuple []) (H.set id (IB g (Sort.insertionSort G6 d a b))):=by
 have aE:=(List.getElem?_eq_some_iff.1 ah).1;refine QK dD V9 rfl ⟨by simp,fun j ad af=>by rw [List.getElem?_set_ne (by omega)]⟩ ?_;unfold Sp;conv=>whnf
 have Bz:Nat.ble lo id=true:=Nat.ble_eq_true_of_le bF;have gs:∀ c:au,(H.set id c)[id]?=some c:=fun c=>by rw [List.getElem?_set_self aE]
 have HO:∀ c e:au,((H.set id c).set id e)[id]?=some e:=fun c e=>by rw [List.set_set,gs]
 rw [rW a (by omega)];refine .intro (fun m T H'=>∃ i gR,a+1≤i∧(i≤b∨i=a+1)∧m=b+1-i∧gR.size=d.size∧(∀ x,x<d.size→Jv gR[x]!)∧Sort.insOuter G6 a b i gR=Sort.insertionSort G6 d a b∧T=F2 53 [(0,Hr id d.size),(1,hG a),(2,hG b),(3,.func 103 [] []),(8,hG i)]∧H'=H.set id (IB g gR)) (b-a) ⟨a+1,d,by omega,.inr rfl,by omega,rfl,MJ,rfl,rfl,?_⟩ ?_
 ·obtain ⟨ad,af⟩:=List.getElem?_eq_some_iff.1 ah;rw [←af,List.set_getElem_self]
 rintro m T H' ⟨i,gR,adv,adw,rfl,BJ,r_,he,rfl,rfl⟩;conv=>whnf
 refine Hj (fun h=>?_) (fun h=>?_)
 ·conv=>whnf
  refine .intro (fun j T H'=>∃ rN:Array (List Int),j≤i∧rN.size=d.size∧(∀ x,x<d.size→Jv rN[x]!)∧Sort.insInner G6 a j rN=Sort.insInner G6 a i gR∧T=F2 53 [(0,Hr id d.size),(1,hG a),(2,hG b),(3,.func 103 [] []),(8,hG i),(9,hG j)]∧H'=H.set id (IB g rN)) i ⟨gR,Nat.le_refl _,BJ,r_,rfl,rfl,rfl⟩ ?_;rintro j T H' ⟨rN,az,Kj,MI,Kk,rfl,rfl⟩;conv=>whnf
  by_cases aH:(a:Int)<(j:Int)
  ·rw [decide_eq_true aH];obtain ⟨y,rfl⟩:∃ y,j=y+1:=⟨j-1,by omega⟩;(have hw:IntKind.i64.wrap (((y+1:Nat):Int)-1)=(y:Int):=by rw [Ib _ (by omega) (by omega)];omega);obtain ⟨r,aj,Cq⟩:=acf (MI (y+1) (by omega)) (MI y (by omega));(conv=>whnf);refine ⟨by omega,?_⟩;(conv=>whnf);refine Dj (by first | exact gs _ | exact HO _ _ | assumption) ?_
   (conv=>whnf);refine O1 (y+1) (by omega) (by first | omega | (simp only [Array.size_setIfInBounds];omega)) ?_
   (conv=>whnf);rw [hw];refine ⟨by omega,?_⟩;(conv=>whnf);refine Dj (by first | exact gs _ | exact HO _ _ | assumption) ?_
   (conv=>whnf);refine O1 (y) (by omega) (by first | omega | (simp only [Array.size_setIfInBounds];omega)) ?_
   (conv=>whnf);refine ⟨(p5 (rF (fun _=>rfl) _ _ _) (p5 (rF (fun _=>rfl) _ _ _) rfl)),[i' rN[y+1]!,i' rN[y]!],rfl,_,rfl,aj,F7,?_⟩;(conv=>whnf);rw [Cq];by_cases bh:G6 rN[y+1]! rN[y]! = true
   ·rw [bh];(conv=>whnf);rw [hw];refine ⟨by omega,?_⟩;(conv=>whnf);refine Dj (by first | exact gs _ | exact HO _ _ | assumption) ?_
    (conv=>whnf);refine O1 (y) (by omega) (by first | omega | (simp only [Array.size_setIfInBounds];omega)) ?_
    (conv=>whnf);refine ⟨by omega,?_⟩;(conv=>whnf);refine Dj (by first | exact gs _ | exact HO _ _ | assumption) ?_
    (conv=>whnf);refine O1 (y+1) (by omega) (by first | omega | (simp only [Array.size_setIfInBounds];omega)) ?_
    (conv=>whnf);refine ⟨by omega,?_⟩;(conv=>whnf);rw [Bz];(conv=>whnf);refine Dj (by first | exact gs _ | exact HO _ _ | assumption) ?_
    (conv=>whnf);refine YC (y+1) (by omega) (by first | omega | (simp only [Array.size_setIfInBounds];omega)) ?_
    (conv=>whnf);refine ⟨by omega,?_⟩;(conv=>whnf);rw [Bz];(conv=>whnf);refine Dj (by first | exact gs _ | exact HO _ _ | assumption) ?_
    (conv=>whnf);refine YC (y) (by omega) (by first | omega | (simp only [Array.size_setIfInBounds];omega)) ?_
    (conv=>whnf);refine ⟨y,by omega,Sort.swp rN (y+1) y,by omega,by rw [ahp];exact Kj,?_,?_,?_,?_⟩
    ·intro x al;obtain ⟨z,bn,bM⟩:=swp_get rN (y+1) y x (by omega) (by omega);rw [bM (by omega)];exact MI z (by omega)
    ·rw [←Kk,Sort.insInner,if_pos (by simp only [Bool.and_eq_true,decide_eq_true_eq];exact ⟨by omega,bh⟩)]
    ·rw [hw];rfl
    ·simp only [List.set_set];rfl
   ·rw [Bool.not_eq_true] at bh;rw [bh];(conv=>whnf);have e:Sort.insInner G6 a i gR=rN:=by
     rw [←Kk,Sort.insInner,if_neg (by simp only [Bool.and_eq_true,decide_eq_true_eq];exact fun bJ=>by rw [bh] at bJ;exact absurd bJ.2 (by decide))]
    exact ⟨b+1-(i+1),by omega,i+1,rN,by omega,by omega,rfl,Kj,MI,by rw [←he,Sort.insOuter.eq_1 _ a b i,if_pos (by omega),e],by rw [←rW i (by omega)];rfl,rfl⟩
  ·rw [decide_eq_false aH];(conv=>whnf);have e:Sort.insInner G6 a i gR=rN:=by
    rw [←Kk];cases j with
    | zero=>rfl
    | succ y=>rw [Sort.insInner,if_neg (by simp only [Bool.and_eq_true,decide_eq_true_eq];exact fun bJ=>by omega)]
   exact ⟨b+1-(i+1),by omega,i+1,rN,by omega,by omega,rfl,Kj,MI,by rw [←he,Sort.insOuter.eq_1 _ a b i,if_pos (by omega),e],by rw [←rW i (by omega)];rfl,rfl⟩
 ·conv=>whnf
  have e:Sort.insertionSort G6 d a b=gR:=by
   rw [←he];unfold Sort.insOuter;rw [if_neg (by omega)]
  rw [e];exact ⟨.inl rfl,⟨by simp,fun j o az=>.inr az⟩,rfl⟩
theorem afN (d:Array (List Int)) (JK:Int) (a2:d.size≤12) (ah:H[id]?=some (IB g d)) (MJ:∀ x,x<d.size→Jv d[x]!) :
  Sem Go.Proofs.Tryz.prog (.fn 127) [Hr id d.size,hG 0,hG d.size,hG JK,.func 103 [] []] H lo (.tuple []) (H.set id (IB g (Sort.insertionSort G6 d 0 d.size))):=by
 refine G0 dD V8 rfl ⟨by simp,fun j ad af=>by rw [List.getElem?_set_ne (by omega)]⟩ fun Q bz=>?_;unfold Sk;obtain ⟨US,JC⟩:∃ c,Nq=c:=⟨_,rfl⟩;rw [JC];conv=>whnf
 refine .intro (fun m T H'=>T=F2 148 [(0,Hr id d.size),(1,hG 0),(2,hG d.size),(3,hG JK),(4,.func 103 [] []),(10,B true),(11,B true)]∧H'=H) 0 ⟨rfl,rfl⟩ ?_;rintro m T H' ⟨rfl,rfl⟩;subst JC;unfold Nq;obtain ⟨a',cn⟩:∃ c,Np=c:=⟨_,rfl⟩;obtain ⟨UR,MC⟩:∃ c,Sl=c:=⟨_,rfl⟩;rw [cn,MC];conv=>whnf
 rw [show IntKind.i64.wrap ((d.size:Int)-0)=(d.size:Int) by rw [Ib _ (by omega) (by omega)];omega,decide_eq_true (show (d.size:Int)≤12 by omega)];conv=>whnf
 subst cn;unfold Np;conv=>whnf
 refine ⟨_,_,G9 (ad9 bF d 0 d.size (by omega) (Nat.zero_le _) (Nat.le_refl _) ah MJ),?_⟩;conv=>whnf
 exact bz _ _ _ ⟨.inr rfl,⟨rfl,fun j o az=>.inr az⟩,rfl⟩
end
theorem ahh {H:List au} {id lo g:Nat} (bF:lo≤id) (d:Array (List Int)) (a2:d.size≤12) (ah:H[id]?=some (IB g d)) (MJ:∀ x,x<d.size→Jv d[x]!) :
  Sem Go.Proofs.Tryz.prog (.fn 102) [Hr id d.size,.func 103 [] []] H lo (.tuple []) (H.set id (IB g (Sort.insertionSort G6 d 0 d.size))):=by
 refine G0 dD V3 rfl ⟨by simp,fun j ad af=>by rw [List.getElem?_set_ne (by omega)]⟩ fun Q bz=>?_;unfold RX;conv=>whnf
 rw [show IntKind.u64.wrap (d.size:Int)=(d.size:Int) by rw [YD];omega];refine ⟨by first | rfl | simp only [List.all_cons,List.all_nil,M6,Nc,M7,M9,M8,M_,Nf,Nd,JN,M',Na,Nb,Bool.and_true,Bool.and_self],_,Qw d.size a2,?_⟩
 conv=>whnf
 refine ⟨_,_,G9 (afN bF d (Sort.bitsLen d.size) a2 ah MJ),?_⟩;conv=>whnf
 exact bz _ _ _ ⟨.inl rfl,⟨rfl,fun j o az=>.inr az⟩,rfl⟩
end Go.Proofs.YtfakoboiahbhaaaGreat.Ab


namespace Go.Proofs.YtfakoboiahbhaaaGreat.Ab
open Go
def aaO:c':={ ops:=[[],[{},{},{},{ cx:=[true] }],[{},{ cx:=[true] }],[{ cx:=[true] },{ cx:=[true],mode:=4 }],[{},{ cx:=[true] },{ cx:=[true] }],[{},{},{ cx:=[true] },{ cx:=[true,true] }],[{ cx:=[true] },{ cx:=[true] },{ cx:=[true] }],[{},{},{ cx:=[true,true] },{ cx:=[true] },{ cx:=[true] }],[{},{},{ mode:=6 },{ cx:=[true] }],[{},{},{ cx:=[true] },{ cx:=[true,true] },{ cx:=[true,true] }],[{ cx:=[true] },{ cx:=[true] },{ cx:=[true] }],[{},{},{ cx:=[true,true] },{ cx:=[true] }],[{ cx:=[true] },{ cx:=[true] },{ cx:=[true,true] },{ cx:=[true],mode:=4 }]],hW:=[(0,(DX false [0,2,3,2,35]))] }
noncomputable def RT:eM :=
 FY [FN 30 0,FN 31 5,FO 32 7,FH 33 30 31 1,⟨none,[.hA 33,.hA 32],none,none,.st 1⟩] (FR [FO 34 5,Fk 35 34 1,FO 5 35])
noncomputable def RU:eM :=
 FY [FN 26 1,FN 27 7,gO 28 [.sl 26,.sl 27] (.call 6),gO 29 [.hD 28] (.un .not)] (.cond (.sl 29) RT .skip)
noncomputable def RV:eM :=
 .block 1 (FY [FN 22 0,FN 23 6,FH 24 22 23 1,FL 25 24,FO 7 25] RU)
noncomputable def OP:eM :=
 .seq (FY [FN 16 6,FN 17 0,FK 18 17,Fo 19 16 18 .lss] (.cond (.sl 19) .skip (.exit 0))) (.seq RV (FR [FO 20 6,Fk 21 20 1,FO 6 21]))
noncomputable def RW:eM :=
 FY [FO 39 0, FO 40 5, gO 41 [.hA 39, .hA 40] (.Ap 1 false true false), gO 4 [.hA 41] (.other (Oper.mk (some 4) (Op.assign (Operand.tmp 41)) 41 "slices.go:254" (Array.mk [Edge.mk 2 Ground.data, Edge.mk 0 Ground.phase, Edge.mk 1 Ground.phase, Edge.mk 2 Ground.phase]) none) 4)] .ret
noncomputable def OQ:eM :=
 FY [FN 36 0, FN 37 5, gO 38 [.hA 36, .hA 37] (.Ap 1 true false false), ⟨none, [.hA 38], none, none, .other (Oper.mk none (Op.call (Call.mk (Callee.builtin Builtin.clear) (Array.mk [Operand.tmp 38]) (Array.mk [41]))) 0 "slices.go:253" (Array.mk [Edge.mk 2 Ground.data]) none) 0⟩] RW
noncomputable def Ng:eM :=
 .seq (FY [FN 11 5, Fm 12 11 (-1) .eql] (.cond (.sl 12) (FY [FO 13 0, gO 4 [.hA 13] (.other (Oper.mk (some 4) (Op.assign (Operand.tmp 13)) 41 "slices.go:244" (Array.mk [Edge.mk 0 Ground.data, Edge.mk 0 Ground.phase]) none) 4)] .ret) .skip)) (.seq (FY [FN 14 5, Fk 15 14 1, FO 6 15] (.block 0 (.loop (some (DX false [0, 2, 3, 2, 35])) OP))) OQ)
noncomputable def Nh:eM :=
 FY [FN 8 0,FN 9 1,gO 10 [.ij (.func 126 [] []),.sl 8,.sl 9] (.call 0),FO 5 10] Ng
noncomputable def RS:eM :=
 FY [gO 4 [.ij (.ax [] 0 .full)] (.nil 1)] Nh
theorem V2:yQ Go.Proofs.Tryz.prog aaO 101=some (RS,42,[.tmp 4]):=by kernel_rfl
end Go.Proofs.YtfakoboiahbhaaaGreat.Ab


namespace Go.Proofs.YtfakoboiahbhaaaGreat.Ab
open Go
set_option maxRecDepth 20000
set_option maxHeartbeats 4000000
theorem N4 {P:Program} {k:FuncId} {args:List I} {H H':List au} {lo:Nat} {v:I} (aD:cl 8 v=true) (h:Sem P (.fn k) args H H.length v H'):n2 P 0 lo (.fn k) args H v H:=by
 refine ⟨_,Dp h,?_⟩;have cd:bK H' H.length H'.length 0 8 v=some v:=ox aD;simp only [eP,Dn,Option.bind_some,cd,Option.map_some]
theorem ad5 {p:List Int→Bool}:∀ (l:List (List Int)) (i:Nat) (h:i<l.length),idxOf p (l.drop i) i=if p l[i]=true then (i:Int) else idxOf p (l.drop (i+1)) (i+1):=fun l i h=>by
 rw [List.drop_eq_getElem_cons h,idxOf]
theorem SN (d:List (List Int)) {n:Int} {i:Nat} (aP:n=i) (h:i<d.length):(d.map i')[0+n.toNat*1]?=some (i' d[i]):=by
 subst aP;simp [h]
section
variable {id lo g:Nat} {H:List au} {Gk:FuncId} {sd cs:List I} {p:List Int→Bool} {d:List (List Int)}
theorem ad6 (aN:sd.map (h6 H)=cs) (Lv:cs.map I.cm=cs) (BG:cs.all (cl 8)=true) (a2:d.length≤1000) (av:∀ r∈d,qC Gk (i' r::cs) (B (p r))) (ah:H[id]?=some (.grow (d.map i') g 1)) :
  Sem Go.Proofs.Tryz.prog (.fn 126) [.ref id 0 d.length none 1,.func Gk [] sd] H lo (hG (idxOf p d 0)) H:=by
 refine G0 dD V7 rfl ⟨Nat.le_refl _,fun j _ _=>rfl⟩ fun Q bz=>?_;unfold Sj;conv=>whnf
 refine .intro (fun m T H'=>∃ i,i≤d.length∧m=d.length-i∧idxOf p d 0=idxOf p (d.drop i) i∧T=[.ref id 0 d.length none 1,.func Gk [] sd,rz,rz,rz,rz,rz,hG d.length,hG i,rz,rz,rz,rz,rz,rz,rz,rz,rz,rz]∧H'=H) d.length ⟨0,by omega,by omega,rfl,rfl,rfl⟩ ?_;rintro m T H' ⟨i,hi,rfl,he,rfl,rfl⟩;conv=>whnf
 refine Hj (fun h=>?_) (fun h=>?_)
 ·have aY:i<d.length:=by omega
  rw [ad5 d i aY] at he;conv=>whnf
  refine ⟨by omega,?_⟩;conv=>whnf
  refine Dj ah ?_;conv=>whnf
  refine Dj (SN d rfl aY) ?_;conv=>whnf
  refine ⟨_,_,call6 (bs:=i' d[i]::cs) ?_ ?_ (av _ (List.getElem_mem aY)) rfl,?_⟩
  ·show (_::sd.map (h6 H')).map I.cm=_;rw [aN,List.map_cons,Lv];rfl
  ·show (_::sd.map (h6 H')).all (cl 8)=true;rw [aN];exact p5 (rF (fun _=>rfl) _ _ _) BG
  conv=>whnf
  cases aD:p d[i] with
  | true =>
    (conv=>whnf);rw [aD,if_pos rfl] at he;exact bz _ _ _ ⟨.inr rfl,⟨rfl,fun j o az=>.inr az⟩,by rw [he];rfl⟩
  | false =>
    (conv=>whnf);rw [aD,if_neg (by simp)] at he;exact ⟨d.length-(i+1),by omega,i+1,by omega,rfl,he,by rw [←rW i (by omega)] <;> rfl,rfl⟩
 ·obtain rfl:i=d.length:=by omega
  rw [List.drop_length] at he;conv=>whnf
  exact bz _ _ _ ⟨.inr rfl,⟨rfl,fun j o az=>.inr az⟩,by rw [he];rfl⟩
end
theorem UL {P:Program} {C:cc} {lo id gid n:Nat} {o:Oper} {x:Operand} {H:List au} {l:List I} (ar:o.op=.assign x) (bF:lo≤id) (ah:H[id]?=some (.grow l gid 1)) (aP:n≤l.length) (aD:(l.take n).all I.plain=true) :
  a6 P C lo o 4 [.cf id gid n 1] H=some (.ax (l.take n) n (.uniq 1),H.set id .dead):=by
 unfold a6;rw [ar];show eK P lo 4 o.type x H [.cf id gid n 1]=_;unfold eK;simp only [bF,if_true,ah];rw [if_pos ⟨trivial,trivial,by omega,by rw [Nat.mul_one];exact aD⟩,Nat.mul_one]
theorem Xf (l:List (List Int)) (n:Nat):((l.map i').take n).all I.plain=true:=by
 rw [List.all_eq_true];intro u hu;obtain ⟨x,_,rfl⟩:=List.mem_map.1 (List.mem_of_mem_take hu);rfl
theorem acb {P:Program} {lo id off len:Nat} {H:List au} {l:List I} {g:Nat} {cap:Option Nat} {e:TypeId} {ts:Array TypeId} (e1:(ts[0]?).bind P.underlying=some (.slice e)) (cd:bQ P e=some 1) {z:I} (dw:zeroCells P e=some [z]) (bF:lo≤id)
  (ah:H[id]?=some (.grow l g 1)) (aP:off+len≤l.length):kB P lo ts H [.ref id off len cap 1]=some (.tuple [],H.set id (.grow (setCells off (eU len [z]) l) g 1)):=by
 unfold kB;simp only [e1,cd,dw,g5,ah,Option.map_some,if_pos bF];rw [if_pos ⟨trivial,rfl,by decide⟩,if_pos (by omega)];rfl
theorem UZ {off len:Nat} {l:List I} {z:I} (aP:off+len≤l.length):(setCells off (eU len [z]) l).take off=l.take off:=by
 apply List.ext_getElem?;intro j;rw [List.getElem?_take,List.getElem?_take];split
 ·rw [nM _ _ _ _ (by rw [h3];simp;omega),if_neg (by omega)]
 ·rfl
theorem acd {off len:Nat} {l:List I} {z:I}:(setCells off (eU len [z]) l).length=l.length:=ml _ _ _
theorem VU {α:Type} (p:α→Bool):∀ (l:List α) (i:Nat),(idxOf p l i=-1∧∀ x∈l,p x=false)∨∃ k,∃ h:k<l.length,idxOf p l i=((i+k:Nat):Int)∧p l[k]=true∧∀ x∈l.take k,p x=false
 | [],i=>.inl ⟨rfl,fun x al=>absurd al (by simp)⟩
 | x::l,i=>by
   rw [idxOf];cases al:p x with
   | true=>rw [if_pos rfl];exact .inr ⟨0,by simp,by simp,al,fun y aZ=>absurd aZ (by simp)⟩
   | false =>
     rw [if_neg (by simp)];rcases VU p l (i+1) with ⟨ad,af⟩ | ⟨k,av,ad,af,aH⟩
     ·exact .inl ⟨ad,fun y aZ=>by rcases List.mem_cons.1 aZ with rfl | aZ;exact al;exact af y aZ⟩
     ·refine .inr ⟨k+1,by simp;omega,by rw [ad];omega,af,fun y aZ=>?_⟩;rw [List.take_succ_cons] at aZ;rcases List.mem_cons.1 aZ with rfl | aZ
      ·exact al
      ·exact aH y aZ
theorem U9 {p:List Int→Bool} {l:List (List Int)} (h:∀ x∈l,p x=false):l.filter (fun r=>!p r)=l:=List.filter_eq_self.2 fun x al=>by rw [h x al];rfl
section
variable {id lo g:Nat} {H:List au} {Gk:FuncId} {sd cs:List I} {p:List Int→Bool} {d:List (List Int)}
theorem acm (bF:lo≤id) (aN:∀ c:au,sd.map (h6 (H.set id c))=cs) (Lv:cs.map I.cm=cs) (BG:cs.all (cl 8)=true) (a2:d.length≤1000) (av:∀ r∈d,qC Gk (i' r::cs) (B (p r))) (ah:H[id]?=some (.grow (d.map i') g 1)) :
  Sem Go.Proofs.Tryz.prog (.fn 101) [.cf id g d.length 1,.func Gk [] sd] H lo (.ax ((d.filter fun r=>!p r).map i') (d.filter fun r=>!p r).length (.uniq 1)) (H.set id .dead):=by
 have aE:=(List.getElem?_eq_some_iff.1 ah).1;refine G0 dD V2 rfl ⟨by simp,fun j ad af=>by rw [List.getElem?_set_ne (by omega)]⟩ fun Q bz=>?_;have gs:∀ c:au,(H.set id c)[id]?=some c:=fun c=>by rw [List.getElem?_set_self aE]
 obtain ⟨ID,fA⟩:∃ ID,ID=H:=⟨H,rfl⟩;rw [show H=ID.set id (.grow (d.map i') g 1) by rw [fA];exact (aha bF ah).symm];rw [←fA] at gs aN bz;unfold RS;obtain ⟨mD,Hw⟩:∃ c,Nh=c:=⟨_,rfl⟩;rw [Hw];conv=>whnf
 subst Hw;unfold Nh;obtain ⟨mC,GG⟩:∃ c,Ng=c:=⟨_,rfl⟩;rw [GG];conv=>whnf
 refine ⟨_,_,N4 rfl (ad6 (aN _) Lv BG a2 av (gs _)),?_⟩;conv=>whnf
 subst GG;unfold Ng;obtain ⟨fN,Gw⟩:∃ c,OQ=c:=⟨_,rfl⟩;obtain ⟨b6,il⟩:∃ c,OP=c:=⟨_,rfl⟩;rw [Gw,il];rcases VU p d 0 with ⟨hi,fS⟩ | ⟨k,adA,hi,adR,fS⟩
 ·rw [hi];conv=>whnf
  refine ⟨_,_,fun C=>UL rfl bF (gs _) (by simp) (Xf _ _),?_⟩;rw [List.set_set];conv=>whnf
  refine bz _ _ _ ⟨.inr rfl,⟨rfl,fun j o az=>.inr az⟩,?_⟩;rw [U9 fS];show some (I.ax ((d.map i').take d.length) d.length (.uniq 1))=_;rw [List.take_of_length_le (by simp)]
 ·rw [hi];rw [Nat.zero_add];conv=>whnf
  rw [rW k (by omega)];refine .intro (fun m T H'=>∃ (i j:Nat) (s:List (List Int)),i<j∧j≤d.length∧m=d.length-j∧s.length=d.length∧s.take i=(d.take j).filter (fun r=>!p r)∧s.drop j=d.drop j∧T=F2 42 [(0,.cf id g d.length 1),(1,.func Gk [] sd),(5,hG i),(6,hG j)]∧H'=ID.set id (.grow (s.map i') g 1)) (d.length-(k+1)) ⟨k,k+1,d,by omega,by omega,rfl,rfl,?_,rfl,rfl,rfl⟩ ?_
  ·rw [List.take_succ_eq_append_getElem adA,List.filter_append,U9 fS];simp [adR]
  rintro m T H' ⟨i,j,s,lx,az,rfl,ai,aw,Ri,rfl,rfl⟩;subst il;unfold OP;obtain ⟨bt,ed⟩:∃ c,RV=c:=⟨_,rfl⟩;rw [ed];conv=>whnf
  refine Hj (fun h=>?_) (fun h=>?_)
  ·(have aY:j<d.length:=by omega);have Lx:s[j]'(by omega)=d[j]:=by
    have:=congrArg (fun l=>l[0]?) Ri;simpa [List.getElem?_drop,aY,ai] using this
   (conv=>whnf);subst ed;unfold RV;obtain ⟨bm,cp⟩:∃ c,RU=c:=⟨_,rfl⟩;rw [cp];(conv=>whnf);refine ⟨by omega,?_⟩;(conv=>whnf);refine Dj (gs _) ?_;(conv=>whnf);refine Dj (SN s rfl (by omega)) ?_;rw [Lx];(conv=>whnf);subst cp;unfold RU;obtain ⟨a',cn⟩:∃ c,RT=c:=⟨_,rfl⟩;rw [cn];(conv=>whnf);refine ⟨_,_,call6 (bs:=i' d[j]::cs) ?_ ?_ (av _ (List.getElem_mem aY)) rfl,?_⟩
   ·show (_::sd.map (h6 _)).map I.cm=_;rw [aN,List.map_cons,Lv];rfl
   ·show (_::sd.map (h6 _)).all (cl 8)=true;rw [aN];exact p5 (rF (fun _=>rfl) _ _ _) BG
   (conv=>whnf);have VI:(d.take (j+1)).filter (fun r=>!p r)=(d.take j).filter (fun r=>!p r)++[d[j]].filter (fun r=>!p r):=by
    rw [List.take_succ_eq_append_getElem aY,List.filter_append]
   cases aD:p d[j] with
   | true =>
     (conv=>whnf);refine ⟨d.length-(j+1),by omega,i,j+1,s,by omega,by omega,rfl,ai,?_,?_,by rw [←rW j (by omega)] <;> rfl,rfl⟩
     ·rw [VI,aw];simp [aD]
     ·have:=congrArg (List.drop 1) Ri;simpa [List.drop_drop,Nat.add_comm] using this
   | false =>
     (conv=>whnf);subst cn;unfold RT;refine HI fun mv Gy=>?_;(conv=>whnf);refine ⟨by omega,?_⟩;(conv=>whnf);rw [show Nat.ble lo id=true from Nat.ble_eq_true_of_le bF];(conv=>whnf);refine Dj (gs _) ?_;(conv=>whnf);refine E7 (by simp;omega) ?_;(conv=>whnf);rw [List.set_set];refine Gy _ _ _ ?_;(conv=>whnf);refine ⟨d.length-(j+1),by omega,i+1,j+1,s.set i d[j],by omega,by omega,rfl,by simpa using ai,?_,?_,by rw [←rW j (by omega),←rW i (by omega)] <;> rfl,?_⟩
     ·rw [VI,←aw,List.take_succ_eq_append_getElem (by rw [List.length_set];omega),List.getElem_set_self,List.take_set_of_le (Nat.le_refl _)];simp [aD]
     ·rw [List.drop_set_of_lt (by omega)];have:=congrArg (List.drop 1) Ri;simpa [List.drop_drop,Nat.add_comm] using this
     ·rw [show 0+(i:Int).toNat*1=i by simp,List.map_set];rfl
  ·(obtain rfl:j=d.length:=by omega);rw [List.take_length] at aw;(have rb:i=(d.filter fun r=>!p r).length:=by rw [←aw,List.length_take];omega);(conv=>whnf);subst Gw;unfold OQ;obtain ⟨dQ,Bp⟩:∃ c,RW=c:=⟨_,rfl⟩;rw [Bp];(conv=>whnf);refine ⟨rfl,⟨by omega,by omega⟩,fun aY=>?_,fun heq=>absurd heq (by omega)⟩;(conv=>whnf);refine ⟨_,_,fun C=>(M1 rfl).trans (acb (e:=38) (z:=.ax [] 0 .full) (by kernel_rfl) (by kernel_rfl) (by kernel_rfl) bF (gs _) (by simp;omega)),?_⟩;rw [List.set_set];(conv=>whnf);subst Bp;unfold RW;(conv=>whnf);refine ⟨⟨by omega,by omega⟩,?_⟩;(conv=>whnf);refine ⟨_,_,fun C=>UL rfl bF (gs _) ?_ ?_,?_⟩
   ·rw [acd];simp;omega
   ·rw [show 0+(i:Int).toNat*1=(i:Int).toNat by omega,UZ (by simp;omega)];exact Xf _ _
   rw [List.set_set];(conv=>whnf);refine bz _ _ _ ⟨.inr rfl,⟨rfl,fun j o az=>.inr az⟩,?_⟩;show some (I.ax (List.take (i:Int).toNat _) (i:Int).toNat (.uniq 1))=_;rw [show 0+(i:Int).toNat*1=(i:Int).toNat by omega,UZ (by simp;omega),Int.toNat_natCast,←List.map_take,aw,←rb]
end

theorem VW {α:Type} [Inhabited α] (lt:α→α→Bool) (d:Array α) (a b:Nat):(Sort.insertionSort lt d a b).size=d.size:=by
 have aho:∀ (d:Array α) (i j:Nat),(Sort.swp d i j).size=d.size:=fun d i j=>by simp [Sort.swp]
 have j_:∀ (j:Nat) (d:Array α),(Sort.insInner lt a j d).size=d.size:=fun j=>by
  induction j with
  | zero=>intro d;rfl
  | succ j a9 =>
    intro d;rw [Sort.insInner];split
    ·rw [a9,aho]
    ·rfl
 show (Sort.insOuter lt a b (a+1) d).size=d.size
 have:∀ (n i:Nat) (d:Array α),b-i=n→(Sort.insOuter lt a b i d).size=d.size:=fun n=>by
  induction n with
  | zero=>intro i d h;rw [Sort.insOuter.eq_1,if_neg (by omega)]
  | succ n a9=>intro i d h;rw [Sort.insOuter.eq_1,if_pos (by omega),a9 _ _ (by omega),j_]
 exact this _ _ d rfl
def GR (l:List Int):List Int:=(Sort.insertionSort Sort.ltInt l.toArray 0 l.length).toList
theorem Xs (l:List Int):(GR l).length=l.length:=by
 unfold GR;rw [Array.length_toList,VW];simp
theorem ahf {H:List au} {id lo n:Nat} (l:List Int) (bF:lo≤id) (aq:l.length≤12) (aP:n=l.length) (ah:H[id]?=some (.cells (l.map hG))) :
  Sem Go.Proofs.Tryz.prog (.fn 73) [.ref id 0 n none 1] H lo (.tuple []) (H.set id (.cells ((GR l).map hG))):=by
 subst aP;have:=ahc bF l.toArray (by simpa using aq) (by simpa [IA] using ah);simpa [IA,Hr,GR] using this
def HG (l:List (List Int)):List (List Int):=(Sort.insertionSort G6 l.toArray 0 l.length).toList
theorem SV (l:List (List Int)):(HG l).length=l.length:=by
 unfold HG;rw [Array.length_toList,VW];simp
def LK (l:List Int):Bool:=!l.isEmpty && decide (0≤ix l 0) && decide (ix l 0≤1000)
theorem ag0 {l:List Int} (h:LK l=true):Jv l:=by
 simp only [LK,Bool.and_eq_true,decide_eq_true_eq] at h;exact ⟨by intro e;subst e;simp at h,h.1.2,h.2⟩
theorem ahk {H:List au} {id lo n g:Nat} (l:List (List Int)) (bF:lo≤id) (aq:l.length≤12) (aj:l.all LK=true) (aP:n=l.length) (ah:H[id]?=some (.grow (l.map i') g 1)) :
  Sem Go.Proofs.Tryz.prog (.fn 102) [.ref id 0 n none 1,.func 103 [] []] H lo (.tuple []) (H.set id (.grow ((HG l).map i') g 1)):=by
 subst aP
 have:=ahh bF l.toArray (by simpa using aq) (g:=g) (by simpa [IB] using ah) (fun x al=>by
  have al:x<l.length:=by simpa using al
  have:=List.all_eq_true.1 aj l[x] (List.getElem_mem al);have e:l.toArray[x]! = l[x]:=by simp [al]
  rw [e];exact ag0 this)
 simpa [IB,Hr,HG] using this
def Kc (f:List Int→Option Bool):List (List Int)→Option (List (List Int))
 | []=>some []
 | r::l=>(f r).bind fun b=>(Kc f l).bind fun l'=>some (if b=true then l' else r::l')
theorem U2 {f:List Int→Option Bool}:∀ {l R:List (List Int)},Kc f l=some R→∃ p:List Int→Bool,(∀ r∈l,f r=some (p r))∧R=l.filter fun r=>!p r
 | l,R,h=>by
   refine ⟨fun r=>(f r).getD false,?_⟩
   induction l generalizing R with
   | nil=>exact ⟨fun r aj=>absurd aj (by simp),(Option.some.inj h).symm⟩
   | cons r l a9 =>
     obtain ⟨b,ag,h⟩:=qi h;obtain ⟨l',dr,h⟩:=qi h;obtain rfl:=Option.some.inj h;obtain ⟨i1,i2⟩:=a9 _ dr;refine ⟨fun x al=>?_,?_⟩
     ·rcases List.mem_cons.1 al with rfl | al
      ·show f x=some ((f x).getD false);rw [ag];rfl
      ·exact i1 x al
     ·(have e:(f r).getD false=b:=by rw [ag];rfl);rw [List.filter_cons];show _=if (!(f r).getD false)=true then _ else _;rw [e,←i2];cases b <;> rfl
section
variable {id lo g n:Nat} {H:List au} {Gk:FuncId} {sd cs:List I} {f:List Int→Option Bool} {l R:List (List Int)}
theorem ack (h:Kc f l=some R) (bF:lo≤id) (aN:∀ c:au,sd.map (h6 (H.set id c))=cs) (Lv:cs.map I.cm=cs) (BG:cs.all (cl 8)=true) (a2:l.length≤1000) (aP:n=l.length) (av:∀ r b,f r=some b→qC Gk (i' r::cs) (B b)) (ah:H[id]?=some (.grow (l.map i') g 1)) :
  Sem Go.Proofs.Tryz.prog (.fn 101) [.cf id g n 1,.func Gk [] sd] H lo (.ax (R.map i') R.length (.uniq 1)) (H.set id .dead):=by
 subst aP;obtain ⟨p,aD,rfl⟩:=U2 h;exact acm bF aN Lv BG a2 (fun r aj=>av r _ (aD r aj)) ah
end
section
variable {H:List au} {lo:Nat}
theorem ad8 {F:I}:Sem Go.Proofs.Tryz.prog (.fn 138) [.ax [] 0 .full,hG 0,hG 0,F] H lo (.tuple []) H:=by
 refine G0 dD V9 rfl (a_.refl _ _) fun Q bz=>?_;unfold Sp;conv=>whnf
 refine .intro (fun m T H'=>T=F2 53 [(0,.ax [] 0 .full),(1,hG 0),(2,hG 0),(3,F),(8,hG 1)]∧H=H') 0 ⟨rfl,rfl⟩ ?_;rintro m T H' ⟨rfl,rfl⟩;conv=>whnf
 exact bz _ _ _ ⟨.inl rfl,⟨by simp,fun j o az=>.inr az⟩,rfl⟩
theorem afL {JK:Int} {k:FuncId} {cap:List I}:Sem Go.Proofs.Tryz.prog (.fn 127) [.ax [] 0 .full,hG 0,hG 0,hG JK,.func k [] cap] H lo (.tuple []) H:=by
 refine G0 dD V8 rfl (a_.refl _ _) fun Q bz=>?_;unfold Sk;obtain ⟨US,JC⟩:∃ c,Nq=c:=⟨_,rfl⟩;rw [JC];conv=>whnf
 refine .intro (fun m T H'=>T=F2 148 [(0,.ax [] 0 .full),(1,hG 0),(2,hG 0),(3,hG JK),(4,.func k [] cap),(10,B true),(11,B true)]∧H'=H) 0 ⟨rfl,rfl⟩ ?_;rintro m T H' ⟨rfl,rfl⟩;subst JC;unfold Nq;obtain ⟨a',cn⟩:∃ c,Np=c:=⟨_,rfl⟩;obtain ⟨UR,MC⟩:∃ c,Sl=c:=⟨_,rfl⟩;rw [cn,MC];conv=>whnf
 subst cn;unfold Np;conv=>whnf
 refine ⟨_,_,G9 ad8,?_⟩;conv=>whnf
 exact bz _ _ _ ⟨.inr rfl,⟨rfl,fun j o az=>.inr az⟩,rfl⟩
theorem ahg {k:FuncId} {cap:List I}:Sem Go.Proofs.Tryz.prog (.fn 102) [.ax [] 0 .full,.func k [] cap] H lo (.tuple []) H:=by
 refine G0 dD V3 rfl (a_.refl _ _) fun Q bz=>?_;unfold RX;conv=>whnf
 refine ⟨by first | rfl | simp only [List.all_cons,List.all_nil,M6,Nc,M7,M9,M8,M_,Nf,Nd,JN,M',Na,Nb,Bool.and_true,Bool.and_self],_,Qw 0 (by decide),?_⟩
 conv=>whnf
 refine ⟨_,_,G9 afL,?_⟩;conv=>whnf
 exact bz _ _ _ ⟨.inl rfl,⟨by simp,fun j o az=>.inr az⟩,rfl⟩
theorem ad4 {k:FuncId} {cap:List I}:Sem Go.Proofs.Tryz.prog (.fn 126) [.ax [] 0 .full,.func k [] cap] H lo (hG (-1)) H:=by
 refine G0 dD V7 rfl (a_.refl _ _) fun Q bz=>?_;unfold Sj;conv=>whnf
 refine .intro (fun m T H'=>T=[.ax [] 0 .full,.func k [] cap,rz,rz,rz,rz,rz,hG 0,hG 0,rz,rz,rz,rz,rz,rz,rz,rz,rz,rz]∧H'=H) 0 ⟨rfl,rfl⟩ ?_;rintro m T H' ⟨rfl,rfl⟩;conv=>whnf
 exact bz _ _ _ ⟨.inr rfl,⟨rfl,fun j o az=>.inr az⟩,rfl⟩
theorem aci {k:FuncId} {cap:List I}:Sem Go.Proofs.Tryz.prog (.fn 101) [.ax [] 0 .full,.func k [] cap] H lo (.ax [] 0 .full) H:=by
 refine G0 dD V2 rfl (a_.refl _ _) fun Q bz=>?_;unfold RS;obtain ⟨mD,Hw⟩:∃ c,Nh=c:=⟨_,rfl⟩;rw [Hw];conv=>whnf
 subst Hw;unfold Nh;obtain ⟨mC,GG⟩:∃ c,Ng=c:=⟨_,rfl⟩;rw [GG];conv=>whnf
 refine ⟨_,_,N4 rfl ad4,?_⟩;conv=>whnf
 subst GG;unfold Ng;obtain ⟨fN,Gw⟩:∃ c,OQ=c:=⟨_,rfl⟩;obtain ⟨b6,il⟩:∃ c,OP=c:=⟨_,rfl⟩;rw [Gw,il];conv=>whnf
 refine ⟨_,_,fun C=>rfl,?_⟩;conv=>whnf
 exact bz _ _ _ ⟨.inr rfl,⟨rfl,fun j o az=>.inr az⟩,rfl⟩
end
end Go.Proofs.YtfakoboiahbhaaaGreat.Ab


namespace Go.Proofs.YtfakoboiahbhaaaGreat.Ab
open Go
noncomputable def Sq:eM :=
 .jO false [FO 30 9,FO 31 11,gO 32 [.hA 30,.hA 31] (.app 1 8),FO 9 32]
noncomputable def OU:eM :=
 .block 3 (FY [gO 25 [.sl 21,.sl 23] (.pq 1),FL 26 25,FO 11 26] (FY [FN 27 8,FN 28 11,gO 29 [.sl 27,.sl 28] (.call 6)] (.cond (.sl 29) Sq .skip)))
noncomputable def Sr:eM :=
 .jO false [FO 36 5, FO 37 8, gO 38 [.ij (.func 101 [] []), .hA 36, .hA 37] (.call 1), ⟨some 39, [.hA 9], none, some 9, .other (Oper.mk (some 39) (Op.move (Operand.tmp 9)) 38 "table.go:86" (Array.mk []) none) 2⟩, gO 40 [.hD 39] (.xG 1 1 [.ax [] 0 .full] [0]), gO 41 [.hA 38, .hA 40] (.xx 1 24), FO 5 41]
noncomputable def LI:eM :=
 .loop (some (DX false [2,1,2,1,2,2,2,3,6,3,22])) (FY [gO 24 [.sl 23,.sl 22] (.bin .lss)] (.seq (.cond (.sl 24) .skip (.exit 2)) (.seq OU (FR [Fk 33 23 1,FO 23 33]))))
noncomputable def OW:eM :=
 FY [⟨some 34,[.hA 9],none,some 9,.Aw⟩,gO 35 [.ij (.func 73 [] []),.hA 34] (.call 1)] Sr
noncomputable def Ss:eM :=
 .seq (FY [FN 21 5,gO 22 [.sl 21] .pz,FM 23 0] (.block 2 LI)) OW
noncomputable def St:eM :=
 FY [gO 18 [.sl 2,.sl 7] (.y6 98 0 2),FO 8 18] (FY [FL 19 7,gO 20 [.hD 19] (.xG 1 1 [.int .i64 0] [0]),FO 9 20] Ss)
noncomputable def Su:eM :=
 .block 1 (FY [gO 16 [.sl 12,.sl 14] (.pq 1),FL 17 16,gO 7 [] (.alloc [.int .i64 0]),⟨none,[.sl 7,.hA 17],none,none,.st 1⟩] St)
noncomputable def Sv:eM :=
 FY [FN 43 5, gO 44 [.ij (.func 102 [] []), .hA 43, .ij (.func 103 [] [])] (.call 1)] (FY [⟨some 45, [.hA 5], none, some 5, .other (Oper.mk (some 45) (Op.move (Operand.tmp 5)) 41 "table.go:89" (Array.mk []) none) 2⟩, FO 4 45] .ret)
noncomputable def OV:eM :=
 .loop (some (DX false [2,1,2,1,6,3,31])) (FY [gO 15 [.sl 14,.sl 13] (.bin .lss)] (.seq (.cond (.sl 15) .skip (.exit 0)) (.seq Su (FR [Fk 42 14 1,FO 14 42]))))
noncomputable def Sw:eM :=
 .seq (FY [FO 12 1,gO 13 [.sl 12] .pz,FM 14 0] (.block 0 OV)) Sv
noncomputable def WY:eM :=
 FY [gO 2 [.hA 0] .box,gO 4 [.ij (.ax [] 0 .full)] (.nil 1)] (FY [gO 5 [.ij (.ax [] 0 .full)] .Aw] Sw)
theorem aeo:yQ Go.Proofs.Tryz.prog Ll 79=some (WY,46,[.tmp 4]):=by kernel_rfl
end Go.Proofs.YtfakoboiahbhaaaGreat.Ab
