
import Derived.Test.YtfakoboiahbhaaaGreatJb6
import Derived.KernelRfl
set_option linter.unusedSimpArgs false
set_option linter.unusedVariables false
set_option linter.unusedSectionVars false

namespace Go.Proofs.YtfakoboiahbhaaaGreat.Ab
open Go
def aat:qL:=.pure 42 [.agg [.int .i64 4,.ax [.int .i64 0,.int .i64 1,.int .i64 1,.int .i64 2,.int .i64 2,.int .i64 0,.int .i64 2,.int .i64 3] 4 .shared]] (.tuple [.ax [] 0 .shared,.int .i64 27])
theorem ajW:q2 Go.Proofs.Tryz.prog aat:=Hp HI (by kernel_rfl)
end Go.Proofs.YtfakoboiahbhaaaGreat.Ab
