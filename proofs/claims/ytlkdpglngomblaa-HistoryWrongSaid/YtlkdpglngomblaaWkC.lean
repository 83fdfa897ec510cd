/- A small calculus of weakest preconditions over the kit's code: rules for the operations, proved for all programs. -/
import Derived.Test.YtlkdpglngomblaaWk9
import Derived.Test.YtlkdpglngomblaaCod
set_option linter.unusedVariables false
set_option linter.unusedSimpArgs false
namespace Go.Wk
open Go Cod
end Go.Wk
