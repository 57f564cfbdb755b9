
import Derived.Test.YtfakoboiahbhaaaGreatJo4
import Derived.KernelRfl
set_option linter.unusedSimpArgs false
set_option linter.unusedVariables false
set_option linter.unusedSectionVars false

namespace Go.Proofs.YtfakoboiahbhaaaGreat.Ab
open Go
def w15:Ent:=.pure 37 [.agg [.int .i64 4,.lst [.int .i64 0,.int .i64 1,.int .i64 1,.int .i64 2,.int .i64 2,.int .i64 0,.int .i64 2,.int .i64 3] 4 .shared]] (.tuple [.lst [.int .i64 1,.int .i64 1,.int .i64 0,.int .i64 1,.int .i64 2,.int .i64 1,.int .i64 3,.int .i64 0] 4 .shared,.int .i64 0])
theorem w15_ok:entOk Go.Proofs.Tryz.prog w15:=runC_ok touchL_ok (by kernel_rfl)
end Go.Proofs.YtfakoboiahbhaaaGreat.Ab
