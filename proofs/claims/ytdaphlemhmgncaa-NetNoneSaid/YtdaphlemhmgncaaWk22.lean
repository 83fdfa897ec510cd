/- A small calculus of weakest preconditions over the kit's code: rules for the operations, proved for all programs. -/
import Derived.Test.YtdaphlemhmgncaaWk20
set_option linter.unusedVariables false
set_option linter.unusedSimpArgs false
namespace Go.Wk
open Go Go.RowKit
/-! ### Rows of bools -/


end Go.Wk
