/- A small calculus of weakest preconditions over the kit's code: rules for the operations, proved for all programs. -/
import Derived.Test.YtlkdpglngomblaaKinds
set_option linter.unusedVariables false
set_option linter.unusedSimpArgs false
namespace Go.Wk
open Go Go.RowKit
/-! ### Another reply of an op -/
structure Other where
  n : Nat
  rep : Reply
def kOther : Kd Other := Kd.of (β := (Option Addr × Nat)) 6 (fun (x : Other) (y : (Option Addr × Nat)) => [.int .u64 (x.n : Int), .int .i64 x.rep.err, .bool x.rep.found, .string x.rep.val, .int .i64 x.rep.sess, .slice y.1 x.rep.pairs.length y.2]) (fun (x : Other) (y : (Option Addr × Nat)) => [.dat kPair.sl x.rep.pairs [.slice y.1 x.rep.pairs.length y.2]]) (fun (x : Other) => x.n < 18446744073709551616 ∧ (-9223372036854775808 ≤ x.rep.err ∧ x.rep.err ≤ 9223372036854775807) ∧ x.rep.val.size ≤ BIG ∧ (-9223372036854775808 ≤ x.rep.sess ∧ x.rep.sess ≤ 9223372036854775807) ∧ x.rep.pairs.length ≤ BIG) (fun _ _ => rfl) (by intro x y u hu; simp only [List.mem_cons, List.not_mem_nil, or_false] at hu; rcases hu with rfl | rfl | rfl | rfl | rfl | rfl <;> rfl) (by intro x y a ha; simp only [List.mem_cons, List.not_mem_nil, or_false] at ha; rcases ha with rfl <;> rfl)
end Go.Wk
