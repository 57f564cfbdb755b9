
import Derived.Test.YtfakoboiahbhaaaGreatJo4
import Derived.KernelRfl
set_option linter.unusedSimpArgs false
set_option linter.unusedVariables false
set_option linter.unusedSectionVars false

namespace Go.Proofs.YtfakoboiahbhaaaGreat.Ab
open Go
def w18:Ent:=.pure 42 [.agg [.int .i64 4,.lst [.int .i64 0,.int .i64 1,.int .i64 1,.int .i64 2,.int .i64 2,.int .i64 0,.int .i64 2,.int .i64 3] 4 .shared]] (.tuple [.lst [] 0 .shared,.int .i64 27])
theorem w18_ok:entOk Go.Proofs.Tryz.prog w18:=runC_ok touchL_ok (by kernel_rfl)
end Go.Proofs.YtfakoboiahbhaaaGreat.Ab
