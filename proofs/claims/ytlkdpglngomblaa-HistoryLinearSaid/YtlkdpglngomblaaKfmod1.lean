/- Contracts of the program's functions, each proved by walking its code. -/
import Derived.Test.YtlkdpglngomblaaKfrep
import Derived.Test.YtlkdpglngomblaaMod2
import Derived.Test.YtlkdpglngomblaaWk17
set_option maxRecDepth 100000
set_option linter.unusedVariables false
set_option linter.unusedSimpArgs false
namespace Go.Wk.Fmod1
open Go Go.RowKit Go.Proofs Go.Wk

end Go.Wk.Fmod1
namespace Go.Wk
open Go Go.RowKit Go.Proofs Fmod1 
theorem nanI_spec (a : Int)  : Spec Try.prog 76 #[.int .i64 (a)] [] (β:=Unit) (fun y => .bool (false)) (fun y => True) (fun y => []):=by
 refine Spec.enter (vs:=[_]) Try.func76 rfl Try.ntmps76 rfl (Nat.le_of_ble_eq_true rfl) (fun w0 ok0 => ?_)
 generalize hM0 : blks _ = M0
 have hMn:=@noM _ _ hM0 (by simp [Atom.dat,Atom.elem])
 refine H_seq ?_
 refine H_region (l:=[_]) rfl ?_
 refine HO_assign rfl rfl rfl ?_
 refine HO_nil ?_
 refine H_env (ρ':=[(0,_)]) ⟨rfl,trivial⟩ ?_
 refine H_seq ?_
 refine H_region (l:=[_,_,_,_]) rfl ?_
 iterate 2 refine HO_move rfl rfl rfl ?_
 refine HO_bin rfl rfl rfl rfl bin_neq ?_
 refine HO_assign rfl rfl rfl ?_
 refine HO_nil ?_
 refine H_env (ρ':=[(2,_)]) ⟨rfl,trivial⟩ ?_
 refine H_ret1 Try.results76 (.tmp rfl) (fun w hA => ⟨(),congrArg Ending.returned ?_,?_,?_⟩)
 ·(exact congrArg Value.bool (by simp))
 ·trivial
 ·exact hA.keep (m:=[]) (Y:=[]) rfl
theorem cmpI_spec (a b : Int)  : Spec Try.prog 47 #[.int .i64 (a),.int .i64 (b)] [] (β:=Unit) (fun y => .int .i64 (cmpI a b)) (fun y => True) (fun y => []):=by
 refine Spec.enter (vs:=[_,_]) Try.func47 rfl Try.ntmps47 rfl (Nat.le_of_ble_eq_true rfl) (fun w0 ok0 => ?_)
 generalize hM0 : blks _ = M0
 have hMn:=@noM _ _ hM0 (by simp [Atom.dat,Atom.elem])
 refine H_seq ?_
 refine H_region (l:=[_]) rfl ?_
 refine HO_assign rfl rfl rfl ?_
 refine HO_nil ?_
 refine H_env (ρ':=[(0,_),(1,_)]) ⟨rfl,rfl,trivial⟩ ?_
 refine H_seq ?_
 refine H_region (l:=[_,_,_]) rfl ?_
 refine HO_move rfl rfl rfl ?_
 refine HO_call (first:=[]) (capt:=[]) (is:=[]) (R:=[]) rfl rfl rfl rfl rfl Try.call76 rfl (nanI_spec _) ?_
 intro y8 hy8
 clear y8 hy8
 refine HO_assign rfl rfl rfl ?_
 refine HO_nil ?_
 refine H_env (ρ':=[(5,_),(0,_),(1,_)]) ⟨rfl,rfl,rfl,trivial⟩ ?_
 refine H_seq ?_
 refine H_region (l:=[_,_,_]) rfl ?_
 refine HO_move rfl rfl rfl ?_
 refine HO_call (first:=[]) (capt:=[]) (is:=[]) (R:=[]) rfl rfl rfl rfl rfl Try.call76 rfl (nanI_spec _) ?_
 intro y10 hy10
 clear y10 hy10
 refine HO_assign rfl rfl rfl ?_
 refine HO_nil ?_
 refine H_env (ρ':=[(6,_),(5,_),(0,_),(1,_)]) ⟨rfl,rfl,rfl,rfl,trivial⟩ ?_
 refine H_seq ?_
 refine H_seq ?_
 refine H_region (l:=[_]) rfl ?_
 refine HO_move rfl rfl rfl ?_
 refine HO_nil ?_
 refine H_env (ρ':=[(11,_),(6,_),(0,_),(1,_)]) ⟨rfl,rfl,rfl,rfl,trivial⟩ ?_
 refine H_cond rfl (fun h => nomatch h) (fun _ => ?_)
 refine H_skip ?_
 refine H_seq ?_
 refine H_seq ?_
 refine H_region (l:=[_]) rfl ?_
 refine HO_move rfl rfl rfl ?_
 refine HO_nil ?_
 refine H_env (ρ':=[(13,_),(0,_),(1,_)]) ⟨rfl,rfl,rfl,trivial⟩ ?_
 refine H_cond rfl (fun h => nomatch h) (fun _ => ?_)
 refine H_skip ?_
 refine H_seq ?_
 refine H_seq ?_
 refine H_region (l:=[_,_,_]) rfl ?_
 iterate 2 refine HO_move rfl rfl rfl ?_
 refine HO_bin rfl rfl rfl rfl bin_lss ?_
 refine HO_nil ?_
 refine H_env (ρ':=[(16,_),(0,_),(1,_)]) ⟨rfl,rfl,rfl,trivial⟩ ?_
 refine H_cond rfl ?_ ?_
 ·intro h16
  replace h16:=dT h16
  refine H_seq ?_
  refine H_region (l:=[_]) rfl ?_
  refine HO_assign rfl rfl rfl ?_
  refine HO_nil ?_
  refine H_env (ρ':=[(4,_)]) ⟨rfl,trivial⟩ ?_
  refine H_ret1 Try.results47 (.tmp rfl) (fun w hA => ⟨(),congrArg Ending.returned ?_,?_,?_⟩)
  ·(exact congrArg (Value.int .i64) (by simp [cmpI, *]))
  ·trivial
  ·exact hA.keep (m:=[]) (Y:=[]) rfl
 intro h16
 replace h16:=dF h16
 refine H_skip ?_
 refine H_seq ?_
 refine H_seq ?_
 refine H_region (l:=[_,_,_]) rfl ?_
 iterate 2 refine HO_move rfl rfl rfl ?_
 refine HO_bin rfl rfl rfl rfl bin_gtr ?_
 refine HO_nil ?_
 refine H_env (ρ':=[(19,_)]) ⟨rfl,trivial⟩ ?_
 refine H_cond rfl ?_ ?_
 ·intro h19
  replace h19:=dT h19
  refine H_seq ?_
  refine H_region (l:=[_]) rfl ?_
  refine HO_assign rfl rfl rfl ?_
  refine HO_nil ?_
  refine H_env (ρ':=[(4,_)]) ⟨rfl,trivial⟩ ?_
  refine H_ret1 Try.results47 (.tmp rfl) (fun w hA => ⟨(),congrArg Ending.returned ?_,?_,?_⟩)
  ·(exact congrArg (Value.int .i64) (by simp [cmpI, *]))
  ·trivial
  ·exact hA.keep (m:=[]) (Y:=[]) rfl
 intro h19
 replace h19:=dF h19
 refine H_skip ?_
 refine H_seq ?_
 refine H_region (l:=[_]) rfl ?_
 refine HO_assign rfl rfl rfl ?_
 refine HO_nil ?_
 refine H_env (ρ':=[(4,_)]) ⟨rfl,trivial⟩ ?_
 refine H_ret1 Try.results47 (.tmp rfl) (fun w hA => ⟨(),congrArg Ending.returned ?_,?_,?_⟩)
 ·(exact congrArg (Value.int .i64) (by simp [cmpI, *]))
 ·trivial
 ·exact hA.keep (m:=[]) (Y:=[]) rfl
theorem nanS_spec (a : ByteArray)  : Spec Try.prog 113 #[.string (a)] [] (β:=Unit) (fun y => .bool (false)) (fun y => True) (fun y => []):=by
 refine Spec.enter (vs:=[_]) Try.func113 rfl Try.ntmps113 rfl (Nat.le_of_ble_eq_true rfl) (fun w0 ok0 => ?_)
 generalize hM0 : blks _ = M0
 have hMn:=@noM _ _ hM0 (by simp [Atom.dat,Atom.elem])
 refine H_seq ?_
 refine H_region (l:=[_]) rfl ?_
 refine HO_assign rfl rfl rfl ?_
 refine HO_nil ?_
 refine H_env (ρ':=[(0,_)]) ⟨rfl,trivial⟩ ?_
 refine H_seq ?_
 refine H_region (l:=[_,_,_,_]) rfl ?_
 iterate 2 refine HO_move rfl rfl rfl ?_
 refine HO_bin rfl rfl rfl rfl bin_nes ?_
 refine HO_assign rfl rfl rfl ?_
 refine HO_nil ?_
 refine H_env (ρ':=[(2,_)]) ⟨rfl,trivial⟩ ?_
 refine H_ret1 Try.results113 (.tmp rfl) (fun w hA => ⟨(),congrArg Ending.returned ?_,?_,?_⟩)
 ·(exact congrArg Value.bool (by simp))
 ·trivial
 ·exact hA.keep (m:=[]) (Y:=[]) rfl
theorem cmpS_spec (a b : ByteArray)  : Spec Try.prog 106 #[.string (a),.string (b)] [] (β:=Unit) (fun y => .int .i64 (cmpS a b)) (fun y => True) (fun y => []):=by
 refine Spec.enter (vs:=[_,_]) Try.func106 rfl Try.ntmps106 rfl (Nat.le_of_ble_eq_true rfl) (fun w0 ok0 => ?_)
 generalize hM0 : blks _ = M0
 have hMn:=@noM _ _ hM0 (by simp [Atom.dat,Atom.elem])
 refine H_seq ?_
 refine H_region (l:=[_]) rfl ?_
 refine HO_assign rfl rfl rfl ?_
 refine HO_nil ?_
 refine H_env (ρ':=[(0,_),(1,_)]) ⟨rfl,rfl,trivial⟩ ?_
 refine H_seq ?_
 refine H_region (l:=[_,_,_]) rfl ?_
 refine HO_move rfl rfl rfl ?_
 refine HO_call (first:=[]) (capt:=[]) (is:=[]) (R:=[]) rfl rfl rfl rfl rfl Try.call113 rfl (nanS_spec _) ?_
 intro y8 hy8
 clear y8 hy8
 refine HO_assign rfl rfl rfl ?_
 refine HO_nil ?_
 refine H_env (ρ':=[(5,_),(0,_),(1,_)]) ⟨rfl,rfl,rfl,trivial⟩ ?_
 refine H_seq ?_
 refine H_region (l:=[_,_,_]) rfl ?_
 refine HO_move rfl rfl rfl ?_
 refine HO_call (first:=[]) (capt:=[]) (is:=[]) (R:=[]) rfl rfl rfl rfl rfl Try.call113 rfl (nanS_spec _) ?_
 intro y10 hy10
 clear y10 hy10
 refine HO_assign rfl rfl rfl ?_
 refine HO_nil ?_
 refine H_env (ρ':=[(6,_),(5,_),(0,_),(1,_)]) ⟨rfl,rfl,rfl,rfl,trivial⟩ ?_
 refine H_seq ?_
 refine H_seq ?_
 refine H_region (l:=[_]) rfl ?_
 refine HO_move rfl rfl rfl ?_
 refine HO_nil ?_
 refine H_env (ρ':=[(11,_),(6,_),(0,_),(1,_)]) ⟨rfl,rfl,rfl,rfl,trivial⟩ ?_
 refine H_cond rfl (fun h => nomatch h) (fun _ => ?_)
 refine H_skip ?_
 refine H_seq ?_
 refine H_seq ?_
 refine H_region (l:=[_]) rfl ?_
 refine HO_move rfl rfl rfl ?_
 refine HO_nil ?_
 refine H_env (ρ':=[(13,_),(0,_),(1,_)]) ⟨rfl,rfl,rfl,trivial⟩ ?_
 refine H_cond rfl (fun h => nomatch h) (fun _ => ?_)
 refine H_skip ?_
 refine H_seq ?_
 refine H_seq ?_
 refine H_region (l:=[_,_,_]) rfl ?_
 iterate 2 refine HO_move rfl rfl rfl ?_
 refine HO_bin rfl rfl rfl rfl bin_lts ?_
 refine HO_nil ?_
 refine H_env (ρ':=[(16,_),(0,_),(1,_)]) ⟨rfl,rfl,rfl,trivial⟩ ?_
 refine H_cond rfl ?_ ?_
 ·intro h16
  refine H_seq ?_
  refine H_region (l:=[_]) rfl ?_
  refine HO_assign rfl rfl rfl ?_
  refine HO_nil ?_
  refine H_env (ρ':=[(4,_)]) ⟨rfl,trivial⟩ ?_
  refine H_ret1 Try.results106 (.tmp rfl) (fun w hA => ⟨(),congrArg Ending.returned ?_,?_,?_⟩)
  ·(exact congrArg (Value.int .i64) (by simp [cmpS,soStr, *]))
  ·trivial
  ·exact hA.keep (m:=[]) (Y:=[]) rfl
 intro h16
 refine H_skip ?_
 refine H_seq ?_
 refine H_seq ?_
 refine H_region (l:=[_,_,_]) rfl ?_
 iterate 2 refine HO_move rfl rfl rfl ?_
 refine HO_bin rfl rfl rfl rfl bin_gts ?_
 refine HO_nil ?_
 refine H_env (ρ':=[(19,_)]) ⟨rfl,trivial⟩ ?_
 refine H_cond rfl ?_ ?_
 ·intro h19
  refine H_seq ?_
  refine H_region (l:=[_]) rfl ?_
  refine HO_assign rfl rfl rfl ?_
  refine HO_nil ?_
  refine H_env (ρ':=[(4,_)]) ⟨rfl,trivial⟩ ?_
  refine H_ret1 Try.results106 (.tmp rfl) (fun w hA => ⟨(),congrArg Ending.returned ?_,?_,?_⟩)
  ·(exact congrArg (Value.int .i64) (by simp [cmpS,soStr, *]))
  ·trivial
  ·exact hA.keep (m:=[]) (Y:=[]) rfl
 intro h19
 refine H_skip ?_
 refine H_seq ?_
 refine H_region (l:=[_]) rfl ?_
 refine HO_assign rfl rfl rfl ?_
 refine HO_nil ?_
 refine H_env (ρ':=[(4,_)]) ⟨rfl,trivial⟩ ?_
 refine H_ret1 Try.results106 (.tmp rfl) (fun w hA => ⟨(),congrArg Ending.returned ?_,?_,?_⟩)
 ·(exact congrArg (Value.int .i64) (by simp [cmpS,soStr, *]))
 ·trivial
 ·exact hA.keep (m:=[]) (Y:=[]) rfl
theorem keyOf_spec (ke va : ByteArray)  : Spec Try.prog 88 #[.agg #[.string (ke),.string (va)]] [] (β:=Unit) (fun y => .string (ke)) (fun y => True) (fun y => []):=by
 refine Spec.enter (vs:=[_]) Try.func88 rfl Try.ntmps88 rfl (Nat.le_of_ble_eq_true rfl) (fun w0 ok0 => ?_)
 generalize hM0 : blks _ = M0
 have hMn:=@noM _ _ hM0 (by simp [Atom.dat,Atom.elem])
 refine H_seq ?_
 refine H_region (l:=[_,_]) rfl ?_
 refine HO_box (cs:=[_,_]) rfl rfl rfl rfl ?_
 intro g1
 refine HO_assign rfl rfl rfl ?_
 refine HO_nil ?_
 refine H_env (ρ':=[(1,_)]) ⟨rfl,trivial⟩ ?_
 refine H_seq ?_
 refine H_region (l:=[_,_,_]) rfl ?_
 refine HO_fieldAddr (r:=0) rfl rfl rfl Try.underlying70 rfl Try.sizeOf9 rfl ?_
 refine HO_load1 (i:=0) (j:=0) rfl rfl rfl Try.isAgg9 rfl (.loc _ _ _) rfl rfl ?_
 refine HO_assign rfl rfl rfl ?_
 refine HO_nil ?_
 refine H_env (ρ':=[(2,_)]) ⟨rfl,trivial⟩ ?_
 refine H_world (kp [nn] [] rfl) ?_
 refine H_ret1 Try.results88 (.tmp rfl) (fun w hA => ⟨(),congrArg Ending.returned ?_,?_,?_⟩)
 ·rfl
 ·trivial
 ·exact hA.keep (m:=[]) (Y:=[]) rfl
theorem idOf_spec (i sq er : Int) (fo : Bool) (va : ByteArray) (se : Int) (ps : List Pair) (a : Option Addr) (c : Nat)  : Spec Try.prog 60 #[.agg #[.int .i64 (i),.int .i64 (sq),.int .i64 (er),.bool (fo),.string (va),.int .i64 (se),.slice a (ps.length) c]] [] (β:=Unit) (fun y => .int .i64 (i)) (fun y => True) (fun y => []):=by
 refine Spec.enter (vs:=[_]) Try.func60 rfl Try.ntmps60 rfl (Nat.le_of_ble_eq_true rfl) (fun w0 ok0 => ?_)
 generalize hM0 : blks _ = M0
 have hMn:=@noM _ _ hM0 (by simp [Atom.dat,Atom.elem])
 refine H_seq ?_
 refine H_region (l:=[_,_]) rfl ?_
 refine HO_box (cs:=[_,_,_,_,_,_,_]) rfl rfl rfl rfl ?_
 intro g1
 refine HO_assign rfl rfl rfl ?_
 refine HO_nil ?_
 refine H_env (ρ':=[(1,_)]) ⟨rfl,trivial⟩ ?_
 refine H_seq ?_
 refine H_region (l:=[_,_,_]) rfl ?_
 refine HO_fieldAddr (r:=0) rfl rfl rfl Try.underlying67 rfl Try.sizeOf3 rfl ?_
 refine HO_load1 (i:=0) (j:=0) rfl rfl rfl Try.isAgg3 rfl (.loc _ _ _) rfl rfl ?_
 refine HO_assign rfl rfl rfl ?_
 refine HO_nil ?_
 refine H_env (ρ':=[(2,_)]) ⟨rfl,trivial⟩ ?_
 refine H_world (kp [nn] [] rfl) ?_
 refine H_ret1 Try.results60 (.tmp rfl) (fun w hA => ⟨(),congrArg Ending.returned ?_,?_,?_⟩)
 ·rfl
 ·trivial
 ·exact hA.keep (m:=[]) (Y:=[]) rfl
theorem findP1_spec (g : Nat) (ke va k : ByteArray)  : Spec Try.prog 105 #[.agg #[.string (ke),.string (va)],.string (k),.pointer (some ⟨g,0,none⟩)] [.loc g [.func (.func 88) #[] #[]] 136] (β:=Unit) (fun y => .int .i64 (cmpS ke k)) (fun y => True) (fun y => [.loc g [.func (.func 88) #[] #[]] 136]):=by
 refine Spec.enter (vs:=[_,_,_]) Try.func105 rfl Try.ntmps105 rfl (Nat.le_of_ble_eq_true rfl) (fun w0 ok0 => ?_)
 generalize hM0 : blks _ = M0
 refine H_seq ?_
 refine H_region (l:=[_,_]) rfl ?_
 refine HO_box (cs:=[_,_]) rfl rfl rfl rfl ?_
 intro g3
 refine HO_assign rfl rfl rfl ?_
 refine HO_nil ?_
 refine H_env (ρ':=[(3,_),(1,_),(2,_)]) ⟨rfl,rfl,rfl,trivial⟩ ?_
 refine H_seq ?_
 refine H_region (l:=[_,_,_,_,_,_]) rfl ?_
 refine HO_load1 (i:=1) (j:=0) rfl rfl rfl Try.isAgg136 rfl (.loc _ _ _) rfl rfl ?_
 refine HO_loadA (i:=0) (us:=[]) (cs:=[_,_]) (ts:=[]) rfl rfl rfl Try.isAgg70 Try.sizeOf70 rfl (.loc _ _ _) rfl rfl rfl rfl ?_
 refine HO_call (first:=[]) (capt:=[]) (is:=[]) (R:=[_,_]) rfl rfl rfl rfl rfl Try.call88 rfl (keyOf_spec _ _) ?_
 intro y8 hy8
 clear y8 hy8
 refine HO_move rfl rfl rfl ?_
 refine HO_call (first:=[]) (capt:=[]) (is:=[]) (R:=[_,_]) rfl rfl rfl rfl rfl Try.call106 rfl (cmpS_spec _ _) ?_
 intro y10 hy10
 clear y10 hy10
 refine HO_assign rfl rfl rfl ?_
 refine HO_nil ?_
 refine H_env (ρ':=[(5,_)]) ⟨rfl,trivial⟩ ?_
 refine H_world (kp [nn,yy] [_] rfl) ?_
 refine H_ret1 Try.results105 (.tmp rfl) (fun w hA => ⟨(),congrArg Ending.returned ?_,?_,?_⟩)
 ·rfl
 ·trivial
 ·exact hA.keep (m:=[yy]) (Y:=[_]) rfl
theorem findS1_spec (g : Nat) (i sq er : Int) (fo : Bool) (va : ByteArray) (se : Int) (ps : List Pair) (a : Option Addr) (c : Nat) (k : Int)  : Spec Try.prog 84 #[.agg #[.int .i64 (i),.int .i64 (sq),.int .i64 (er),.bool (fo),.string (va),.int .i64 (se),.slice a (ps.length) c],.int .i64 (k),.pointer (some ⟨g,0,none⟩)] [.loc g [.func (.func 60) #[] #[]] 111] (β:=Unit) (fun y => .int .i64 (cmpI i k)) (fun y => True) (fun y => [.loc g [.func (.func 60) #[] #[]] 111]):=by
 refine Spec.enter (vs:=[_,_,_]) Try.func84 rfl Try.ntmps84 rfl (Nat.le_of_ble_eq_true rfl) (fun w0 ok0 => ?_)
 generalize hM0 : blks _ = M0
 refine H_seq ?_
 refine H_region (l:=[_,_]) rfl ?_
 refine HO_box (cs:=[_,_,_,_,_,_,_]) rfl rfl rfl rfl ?_
 intro g3
 refine HO_assign rfl rfl rfl ?_
 refine HO_nil ?_
 refine H_env (ρ':=[(3,_),(1,_),(2,_)]) ⟨rfl,rfl,rfl,trivial⟩ ?_
 refine H_seq ?_
 refine H_region (l:=[_,_,_,_,_,_]) rfl ?_
 refine HO_load1 (i:=1) (j:=0) rfl rfl rfl Try.isAgg111 rfl (.loc _ _ _) rfl rfl ?_
 refine HO_loadA (i:=0) (us:=[]) (cs:=[_,_,_,_,_,_,_]) (ts:=[]) rfl rfl rfl Try.isAgg67 Try.sizeOf67 rfl (.loc _ _ _) rfl rfl rfl rfl ?_
 refine HO_call (first:=[]) (capt:=[]) (is:=[]) (R:=[_,_]) rfl rfl rfl rfl rfl Try.call60 rfl (idOf_spec _ _ _ _ _ _ _ _ _) ?_
 intro y8 hy8
 clear y8 hy8
 refine HO_move rfl rfl rfl ?_
 refine HO_call (first:=[]) (capt:=[]) (is:=[]) (R:=[_,_]) rfl rfl rfl rfl rfl Try.call47 rfl (cmpI_spec _ _) ?_
 intro y10 hy10
 clear y10 hy10
 refine HO_assign rfl rfl rfl ?_
 refine HO_nil ?_
 refine H_env (ρ':=[(5,_)]) ⟨rfl,trivial⟩ ?_
 refine H_world (kp [nn,yy] [_] rfl) ?_
 refine H_ret1 Try.results84 (.tmp rfl) (fun w hA => ⟨(),congrArg Ending.returned ?_,?_,?_⟩)
 ·rfl
 ·trivial
 ·exact hA.keep (m:=[yy]) (Y:=[_]) rfl
end Go.Wk
