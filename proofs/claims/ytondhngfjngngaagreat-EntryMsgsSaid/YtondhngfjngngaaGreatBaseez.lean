/- The program's order of evaluation is the mixed one. -/
import Derived.Test.YtondhngfjngngaaGreatWkC
import Derived.Test.YtondhngfjngngaaGreatWk11
import Derived.Test.YtondhngfjngngaaGreatWkK
import Derived.Test.YtondhngfjngngaaGreatProg
import Derived.KernelRfl
set_option linter.unusedVariables false
set_option linter.unusedSimpArgs false
namespace Go.Wk
open Go Go.Proofs
theorem mixed : Tryz.prog.follows .mixedOrders = true := by kernel_rfl
end Go.Wk
