/- The program's order of evaluation is the mixed one. -/
import Derived.Test.YtlkdpglngomblaaWkK
import Derived.Test.YtlkdpglngomblaaWk11
import Derived.Test.YtlkdpglngomblaaProg
import Derived.KernelRfl
set_option linter.unusedVariables false
set_option linter.unusedSimpArgs false
namespace Go.Wk
open Go Go.Proofs
theorem mixed : Try.prog.follows .mixedOrders = true := by kernel_rfl
end Go.Wk
