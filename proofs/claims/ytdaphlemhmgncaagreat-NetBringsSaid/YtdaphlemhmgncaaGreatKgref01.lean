/- Contracts of the program's functions, each proved by walking its code. -/
import Derived.Test.YtdaphlemhmgncaaGreatKgcodec3
set_option maxRecDepth 100000
set_option linter.unusedVariables false
set_option linter.unusedSimpArgs false
namespace Go.Wk.Fref01
open Go Go.RowKit Go.Proofs Go.Wk
theorem elt5 : Elt Tryz.prog 5 (.int .u8 (0)) 1 1:=Elt.of (by kernel_rfl) (by rfl) (by decide) (by decide)
end Go.Wk.Fref01
namespace Go.Wk
open Go Go.RowKit Go.Proofs Fref01 
theorem rsame_spec (b b2 : List UInt8) (a : Option Addr) (c : Nat) (a2 : Option Addr) (c2 : Nat)  : Spec Tryz.prog 65 #[.slice a (b.length) c,.slice a2 (b2.length) c2] [.dat kByte.sl (b) [.slice a (b.length) c],.dat kByte.sl (b2) [.slice a2 (b2.length) c2]] (β:=Unit) (fun y => .bool (decide (b = b2))) (fun y => True) (fun y => []):=by
 refine Spec.enter (vs:=[_,_]) Tryz.func65 rfl Tryz.ntmps65 rfl (Nat.le_of_ble_eq_true rfl) (fun w0 ok0 => ?_)
 generalize hM0 : blks _ = M0
 have hMn:=@noM _ _ hM0 (by simp [Atom.dat,Atom.elem])
 refine H_seq ?_
 refine H_region (l:=[_]) rfl ?_
 refine HO_assign rfl rfl rfl ?_
 refine HO_nil ?_
 refine H_env (ρ':=[(0,_),(1,_)]) ⟨rfl,rfl,trivial⟩ ?_
 refine H_seq ?_
 refine H_region (l:=[_,_,_,_,_,_]) rfl ?_
 refine HO_move rfl rfl rfl ?_
 refine HO_bytesStr (i:=0) rfl rfl rfl Tryz.underlying32 Tryz.underlying9 Tryz.underlying5 rfl ?_
 refine HO_move rfl rfl rfl ?_
 refine HO_bytesStr (i:=1) rfl rfl rfl Tryz.underlying32 Tryz.underlying9 Tryz.underlying5 rfl ?_
 refine HO_bin rfl rfl rfl rfl bin_eqs ?_
 refine HO_assign rfl rfl rfl ?_
 refine HO_nil ?_
 refine H_env (ρ':=[(4,_)]) ⟨rfl,trivial⟩ ?_
 refine H_world (kp [nn,nn] [] rfl) ?_
 refine H_ret1 Tryz.results65 (.tmp rfl) (fun w hA => ⟨(),congrArg Ending.returned ?_,?_,?_⟩)
 ·(exact congrArg Value.bool (Cod.dec_same b b2))
 ·trivial
 ·exact hA.keep (m:=[]) (Y:=[]) rfl
end Go.Wk
