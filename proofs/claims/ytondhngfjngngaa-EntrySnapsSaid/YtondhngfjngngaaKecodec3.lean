/- Contracts of the program's functions, each proved by walking its code. -/
import Derived.Test.YtondhngfjngngaaKecodec2
set_option maxRecDepth 100000
set_option linter.unusedVariables false
set_option linter.unusedSimpArgs false
namespace Go.Wk.Fcodec3
open Go Go.RowKit Go.Proofs Go.Wk

end Go.Wk.Fcodec3
namespace Go.Wk
open Go Go.RowKit Go.Proofs Fcodec3 
end Go.Wk
