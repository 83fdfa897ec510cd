/- The program's order of evaluation is the mixed one. -/
import Derived.Test.YtdaphlemhmgncaaWkC
import Derived.Test.YtdaphlemhmgncaaWk11
import Derived.Test.YtdaphlemhmgncaaWkK
import Derived.Test.YtdaphlemhmgncaaProg
import Derived.KernelRfl
set_option linter.unusedVariables false
set_option linter.unusedSimpArgs false
namespace Go.Wk
open Go Go.Proofs
theorem mixed : Try.prog.follows .mixedOrders = true := by kernel_rfl
end Go.Wk
