/- Contracts of the program's functions, each proved by walking its code. -/
import Derived.Test.YtlkdpglngomblaaKfmod3
import Derived.Test.YtlkdpglngomblaaCmd
import Derived.Test.YtlkdpglngomblaaWk17
import Derived.Test.YtlkdpglngomblaaMod5
set_option maxRecDepth 100000
set_option linter.unusedVariables false
set_option linter.unusedSimpArgs false
namespace Go.Wk.Fmod4
open Go Go.RowKit Go.Proofs Go.Wk
theorem elt70 : Elt Try.prog 70 (.agg #[.string (⟨#[]⟩), .string (⟨#[]⟩)]) 2 32 := Elt.of (by kernel_rfl) (by rfl) (by decide) (by decide)
theorem bd38_0_i {x1 : Int} : ∀ w, (Instr.build 38 (List.toArray (List.zip [0] [.int .i64 x1]))).run Try.prog w = .ok (.agg #[.int .i64 x1, .bool (false), .string (⟨#[]⟩), .int .i64 (0), .slice none 0 0]) w := fun _ => by kernel_rfl
theorem bd38_1_2_ot {x1 : Bool} {x2 : ByteArray} : ∀ w, (Instr.build 38 (List.toArray (List.zip [1, 2] [.bool x1, .string x2]))).run Try.prog w = .ok (.agg #[.int .i64 (0), .bool x1, .string x2, .int .i64 (0), .slice none 0 0]) w := fun _ => by kernel_rfl
theorem bd38_4_s {a1 : Option Addr} {n1 c1 : Nat} : ∀ w, (Instr.build 38 (List.toArray (List.zip [4] [.slice a1 n1 c1]))).run Try.prog w = .ok (.agg #[.int .i64 (0), .bool (false), .string (⟨#[]⟩), .int .i64 (0), .slice a1 n1 c1]) w := fun _ => by kernel_rfl
theorem bd70_0_1_tt {x1 : ByteArray} {x2 : ByteArray} : ∀ w, (Instr.build 70 (List.toArray (List.zip [0, 1] [.string x1, .string x2]))).run Try.prog w = .ok (.agg #[.string x1, .string x2]) w := fun _ => by kernel_rfl
end Go.Wk.Fmod4
namespace Go.Wk
open Go Go.RowKit Go.Proofs Fmod4 
end Go.Wk
