/- Contracts of the program's functions, each proved by walking its code. -/
import Derived.Test.YtlkdpglngomblaaKfhist3
import Derived.Test.YtlkdpglngomblaaOrd3
set_option maxRecDepth 100000
set_option linter.unusedVariables false
set_option linter.unusedSimpArgs false
namespace Go.Wk.Fhist4
open Go Go.RowKit Go.Proofs Go.Wk
theorem eq36_eql {x y : Operand} {a0 b0 : Int} {a1 b1 : Int} {a2 b2 : Int} {a3 b3 : ByteArray} {a4 b4 : ByteArray} {a5 b5 : ByteArray} {a6 b6 : ByteArray} {a7 b7 : Int} : BinR Try.prog .eql 36 x y (.agg #[.int .i64 a0,.int .i64 a1,.int .i64 a2,.string a3,.string a4,.string a5,.string a6,.int .i64 a7]) (.agg #[.int .i64 b0,.int .i64 b1,.int .i64 b2,.string b3,.string b4,.string b5,.string b6,.int .i64 b7]) (.bool (decide (a0 = b0) && (decide (a1 = b1) && (decide (a2 = b2) && (decide (a3 = b3) && (decide (a4 = b4) && (decide (a5 = b5) && (decide (a6 = b6) && (decide (a7 = b7) && true))))))))) :=
 bin_eqs_agg (by kernel_rfl) Try.underlying36 (by kernel_rfl) (fun w => (eqF_int (by decide) Try.underlying3 Try.isAgg3 rfl rfl (eqF_int (by decide) Try.underlying3 Try.isAgg3 rfl rfl (eqF_int (by decide) Try.underlying3 Try.isAgg3 rfl rfl (eqF_str (by decide) Try.underlying9 Try.isAgg9 rfl rfl (eqF_str (by decide) Try.underlying9 Try.isAgg9 rfl rfl (eqF_str (by decide) Try.underlying9 Try.isAgg9 rfl rfl (eqF_str (by decide) Try.underlying9 Try.isAgg9 rfl rfl (eqF_int (by decide) Try.underlying3 Try.isAgg3 rfl rfl eqF_nil)))))))))
theorem eq36_neq {x y : Operand} {a0 b0 : Int} {a1 b1 : Int} {a2 b2 : Int} {a3 b3 : ByteArray} {a4 b4 : ByteArray} {a5 b5 : ByteArray} {a6 b6 : ByteArray} {a7 b7 : Int} : BinR Try.prog .neq 36 x y (.agg #[.int .i64 a0,.int .i64 a1,.int .i64 a2,.string a3,.string a4,.string a5,.string a6,.int .i64 a7]) (.agg #[.int .i64 b0,.int .i64 b1,.int .i64 b2,.string b3,.string b4,.string b5,.string b6,.int .i64 b7]) (.bool (!(decide (a0 = b0) && (decide (a1 = b1) && (decide (a2 = b2) && (decide (a3 = b3) && (decide (a4 = b4) && (decide (a5 = b5) && (decide (a6 = b6) && (decide (a7 = b7) && true)))))))))) :=
 bin_nes_agg (by kernel_rfl) Try.underlying36 (by kernel_rfl) (fun w => (eqF_int (by decide) Try.underlying3 Try.isAgg3 rfl rfl (eqF_int (by decide) Try.underlying3 Try.isAgg3 rfl rfl (eqF_int (by decide) Try.underlying3 Try.isAgg3 rfl rfl (eqF_str (by decide) Try.underlying9 Try.isAgg9 rfl rfl (eqF_str (by decide) Try.underlying9 Try.isAgg9 rfl rfl (eqF_str (by decide) Try.underlying9 Try.isAgg9 rfl rfl (eqF_str (by decide) Try.underlying9 Try.isAgg9 rfl rfl (eqF_int (by decide) Try.underlying3 Try.isAgg3 rfl rfl eqF_nil)))))))))
end Go.Wk.Fhist4
namespace Go.Wk
open Go Go.RowKit Go.Proofs Fhist4 
end Go.Wk
