/- Contracts of the program's functions, each proved by walking its code. -/
import Derived.Test.YtlkdpglngomblaaKfmod4
import Derived.Test.YtlkdpglngomblaaMod5
set_option maxRecDepth 100000
set_option linter.unusedVariables false
set_option linter.unusedSimpArgs false
namespace Go.Wk.Fmod5
open Go Go.RowKit Go.Proofs Go.Wk
theorem bd38__  : ∀ w, (Instr.build 38 (List.toArray (List.zip [] []))).run Try.prog w = .ok (.agg #[.int .i64 (0), .bool (false), .string (⟨#[]⟩), .int .i64 (0), .slice none 0 0]) w := fun _ => by kernel_rfl
theorem bd38_0_i {x1 : Int} : ∀ w, (Instr.build 38 (List.toArray (List.zip [0] [.int .i64 x1]))).run Try.prog w = .ok (.agg #[.int .i64 x1, .bool (false), .string (⟨#[]⟩), .int .i64 (0), .slice none 0 0]) w := fun _ => by kernel_rfl
theorem bd38_3_i {x1 : Int} : ∀ w, (Instr.build 38 (List.toArray (List.zip [3] [.int .i64 x1]))).run Try.prog w = .ok (.agg #[.int .i64 (0), .bool (false), .string (⟨#[]⟩), .int .i64 x1, .slice none 0 0]) w := fun _ => by kernel_rfl
end Go.Wk.Fmod5
namespace Go.Wk
open Go Go.RowKit Go.Proofs Fmod5 
end Go.Wk
