/- The program's order of evaluation is the mixed one. -/
import Derived.Test.YtdaphlemhmgncaaGreatWk24
import Derived.Test.YtdaphlemhmgncaaGreatWkK
import Derived.Test.YtdaphlemhmgncaaGreatWk11
import Derived.Test.YtdaphlemhmgncaaGreatProg
import Derived.KernelRfl
set_option linter.unusedVariables false
set_option linter.unusedSimpArgs false
namespace Go.Wk
open Go Go.Proofs
theorem mixed : Tryz.prog.follows .mixedOrders = true := by kernel_rfl
end Go.Wk
