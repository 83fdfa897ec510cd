/- Contracts of the program's functions, each proved by walking its code. -/
import Derived.Test.YtlkdpglngomblaaKflaw20
import Derived.Test.YtlkdpglngomblaaMod6
set_option maxRecDepth 100000
set_option linter.unusedVariables false
set_option linter.unusedSimpArgs false
namespace Go.Wk.Flaw20b
open Go Go.RowKit Go.Proofs Go.Wk
theorem bd36_0_1_ii {x1 : Int} {x2 : Int} : ∀ w, (Instr.build 36 (List.toArray (List.zip [0, 1] [.int .i64 x1, .int .i64 x2]))).run Try.prog w = .ok (.agg #[.int .i64 x1, .int .i64 x2, .int .i64 (0), .string (⟨#[]⟩), .string (⟨#[]⟩), .string (⟨#[]⟩), .string (⟨#[]⟩), .int .i64 (0)]) w := fun _ => by kernel_rfl
end Go.Wk.Flaw20b
namespace Go.Wk
open Go Go.RowKit Go.Proofs Flaw20b 
end Go.Wk
