/- Contracts of the program's functions, each proved by walking its code. -/
import Derived.Test.YtondhngfjngngaaKeref01
set_option maxRecDepth 100000
set_option linter.unusedVariables false
set_option linter.unusedSimpArgs false
namespace Go.Wk.Fref01b
open Go Go.RowKit Go.Proofs Go.Wk

end Go.Wk.Fref01b
namespace Go.Wk
open Go Go.RowKit Go.Proofs Fref01b 

end Go.Wk
