/- A small calculus of weakest preconditions over the kit's code: rules for the operations, proved for all programs. -/
import Derived.Test.YtondhngfjngngaaWk14
set_option linter.unusedVariables false
set_option linter.unusedSimpArgs false
namespace Go.Wk
open Go Go.RowKit
section
variable {P : Program} {t : TypeId} {x y : Operand}
/-- The bits that two whole numbers have both. -/
def andI (a b : Int) : Int := IntKind.i64.wrap ((BitVec.ofInt IntKind.i64.bits a &&& BitVec.ofInt IntKind.i64.bits b).toNat : Int)
theorem bin_andi {a b : Int} : BinR P .and t x y (.int .i64 a) (.int .i64 b) (.int .i64 (andI a b)) :=
  bin_int (by decide) fun w => by
    simp [intSem, Op.intBits, andI]
end
end Go.Wk
