
import Derived.Test.YtfakoboiahbhaaaGreatJt5
import Derived.KernelRfl
set_option linter.unusedSimpArgs false
set_option linter.unusedVariables false
set_option linter.unusedSectionVars false

namespace Go.Proofs.YtfakoboiahbhaaaGreat.Ab
open Go
def Y_:qt:=.pure 37 [.agg [.int .i64 4,.ay [.int .i64 0,.int .i64 1,.int .i64 1,.int .i64 2,.int .i64 2,.int .i64 0,.int .i64 2,.int .i64 3] 4 .shared]] (.tuple [.ay [.int .i64 1,.int .i64 1,.int .i64 0,.int .i64 1,.int .i64 2,.int .i64 1,.int .i64 3,.int .i64 0] 4 .shared,.int .i64 0])
theorem ajl:qz Go.Proofs.Tryz.prog Y_:=rX G1 (by kernel_rfl)
end Go.Proofs.YtfakoboiahbhaaaGreat.Ab
