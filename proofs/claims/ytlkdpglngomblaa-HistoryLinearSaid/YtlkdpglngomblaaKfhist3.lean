/- Contracts of the program's functions, each proved by walking its code. -/
import Derived.Test.YtlkdpglngomblaaKfsort3
import Derived.Test.YtlkdpglngomblaaOrd3
set_option maxRecDepth 100000
set_option linter.unusedVariables false
set_option linter.unusedSimpArgs false
namespace Go.Wk.Fhist3
open Go Go.RowKit Go.Proofs Go.Wk
theorem elt3 : Elt Try.prog 3 (.int .i64 (0)) 1 8:=Elt.of (by kernel_rfl) (by rfl) (by decide) (by decide)
end Go.Wk.Fhist3
namespace Go.Wk
open Go Go.RowKit Go.Proofs Fhist3 
end Go.Wk
