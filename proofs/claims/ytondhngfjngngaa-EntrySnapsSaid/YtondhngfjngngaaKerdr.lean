/- Contracts of the program's functions, each proved by walking its code. -/
import Derived.Test.YtondhngfjngngaaKeref01b
import Derived.Test.YtondhngfjngngaaCod5
import Derived.Test.YtondhngfjngngaaWk14
set_option maxRecDepth 100000
set_option linter.unusedVariables false
set_option linter.unusedSimpArgs false
namespace Go.Wk.Frdr
open Go Go.RowKit Go.Proofs Go.Wk

end Go.Wk.Frdr
namespace Go.Wk
open Go Go.RowKit Go.Proofs Frdr 
end Go.Wk
