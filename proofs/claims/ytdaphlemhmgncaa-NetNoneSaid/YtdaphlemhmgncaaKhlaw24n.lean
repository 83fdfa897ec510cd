/- Contracts of the program's functions, each proved by walking its code. -/
import Derived.Test.YtdaphlemhmgncaaKhlaw24
set_option maxRecDepth 100000
set_option linter.unusedVariables false
set_option linter.unusedSimpArgs false
namespace Go.Wk.Flaw24n
open Go Go.RowKit Go.Proofs Go.Wk
theorem bd30__  : ∀ w,(Instr.build 30 (List.toArray (List.zip [] []))).run Try.prog w = .ok (.agg #[.int .i64 (0),.int .i64 (0),.int .i64 (0),.int .i64 (0),.int .i64 (0),.int .i64 (0),.int .i64 (0),.int .i64 (0),.bool (false),.int .i64 (0),.slice none 0 0,.int .i64 (0),.int .i64 (0),.slice none 0 0,.slice none 0 0,.slice none 0 0]) w:=fun _ => by kernel_rfl
theorem bd39_0_1_pp {x1 : Option Addr} {x2 : Option Addr} : ∀ w,(Instr.build 39 (List.toArray (List.zip [0,1] [.pointer x1,.pointer x2]))).run Try.prog w = .ok (.agg #[.pointer x1,.pointer x2]) w:=fun _ => by kernel_rfl
end Go.Wk.Flaw24n
namespace Go.Wk
open Go Go.RowKit Go.Proofs Flaw24n 
theorem made_zero (g : Nat)  : Spec Try.prog 15 #[.pointer (some ⟨g,0,none⟩)] [.loc g [.slice none (0) 0,.int .i64 (0)] 37] (β:=Unit) (fun y => .bool (false)) (fun y => True) (fun y => [.loc g [.slice none (0) 0,.int .i64 (0)] 37]):=by
 refine Spec.enter (vs:=[_]) Try.func15 rfl Try.ntmps15 rfl (Nat.le_of_ble_eq_true rfl) (fun w0 ok0 => ?_)
 generalize hM0 : blks _ = M0
 refine H_seq ?_
 refine H_region (l:=[_]) rfl ?_
 refine HO_assign rfl rfl rfl ?_
 refine HO_nil ?_
 refine H_env (ρ':=[(0,_)]) ⟨rfl,trivial⟩ ?_
 refine H_seq ?_
 refine H_region (l:=[_,_,_,_,_,_,_,_,_,_,_]) rfl ?_
 refine HO_move rfl rfl rfl ?_
 refine HO_bin (r:=.bool true) rfl rfl rfl rfl (bin_ptr_ne_pn Try.runUnderlying38) ?_
 iterate 2 refine HO_move rfl rfl rfl ?_
 refine HO_nilCheck rfl rfl rfl ?_
 refine HO_fieldAddr (r:=0) rfl rfl rfl Try.underlying37 rfl Try.sizeOf35 rfl ?_
 refine HO_fieldAddr (r:=1) rfl rfl rfl Try.underlying35 rfl Try.sizeOf3 rfl ?_
 refine HO_load1 (i:=0) (j:=1) rfl rfl rfl Try.isAgg3 rfl (.loc _ _ _) rfl rfl ?_
 refine HO_bin rfl rfl rfl rfl (bin_lit (by decide) (fun _ => rfl)) ?_
 refine HO_pick_t rfl rfl rfl rfl ?_
 refine HO_assign rfl rfl rfl ?_
 refine HO_nil ?_
 refine H_env (ρ':=[(2,_)]) ⟨rfl,trivial⟩ ?_
 refine H_ret1 Try.results15 (.tmp rfl) (fun w hA => ⟨(),congrArg Ending.returned ?_,?_,?_⟩)
 ·rfl
 ·trivial
 ·exact hA.keep (m:=[yy]) (Y:=[_]) rfl
theorem mayno_nil (i : Int)  : Spec Try.prog 12 #[.pointer none,.int .i64 (i)] [] (β:=Unit) (fun y => .int .i64 (1)) (fun y => True) (fun y => []):=by
 refine Spec.enter (vs:=[_,_]) Try.func12 rfl Try.ntmps12 rfl (Nat.le_of_ble_eq_true rfl) (fun w0 ok0 => ?_)
 generalize hM0 : blks _ = M0
 have hMn:=@noM _ _ hM0 (by simp [Atom.dat,Atom.elem])
 refine H_seq ?_
 refine H_region (l:=[_]) rfl ?_
 refine HO_assign rfl rfl rfl ?_
 refine HO_nil ?_
 refine H_env (ρ':=[(0,_),(1,_)]) ⟨rfl,rfl,trivial⟩ ?_
 refine H_seq ?_
 refine H_block ?_
 refine H_seq ?_
 refine H_region (l:=[_,_,_,_]) rfl ?_
 refine HO_move rfl rfl rfl ?_
 refine HO_call (first:=[]) (capt:=[]) (is:=[]) (R:=[]) rfl rfl rfl rfl rfl Try.call15 rfl made_nil ?_
 intro y7 hy7
 clear y7 hy7
 refine HO_not rfl rfl rfl ?_
 refine HO_assign rfl rfl rfl ?_
 refine HO_nil ?_
 refine H_env (ρ':=[(5,_),(0,_),(1,_)]) ⟨rfl,rfl,rfl,trivial⟩ ?_
 refine H_cond rfl (fun _ => ?_) (fun h => nomatch h)
 refine H_seq ?_
 refine H_region (l:=[_]) rfl ?_
 refine HO_assign rfl rfl rfl ?_
 refine HO_nil ?_
 refine H_env (ρ':=[(4,_)]) ⟨rfl,trivial⟩ ?_
 refine H_ret1 Try.results12 (.tmp rfl) (fun w hA => ⟨(),congrArg Ending.returned ?_,?_,?_⟩)
 ·rfl
 ·trivial
 ·exact hA.keep (m:=[]) (Y:=[]) rfl
theorem mayno_zero (g : Nat) (i : Int)  : Spec Try.prog 12 #[.pointer (some ⟨g,0,none⟩),.int .i64 (i)] [.loc g [.slice none (0) 0,.int .i64 (0)] 37] (β:=Unit) (fun y => .int .i64 (1)) (fun y => True) (fun y => [.loc g [.slice none (0) 0,.int .i64 (0)] 37]):=by
 refine Spec.enter (vs:=[_,_]) Try.func12 rfl Try.ntmps12 rfl (Nat.le_of_ble_eq_true rfl) (fun w0 ok0 => ?_)
 generalize hM0 : blks _ = M0
 refine H_seq ?_
 refine H_region (l:=[_]) rfl ?_
 refine HO_assign rfl rfl rfl ?_
 refine HO_nil ?_
 refine H_env (ρ':=[(0,_),(1,_)]) ⟨rfl,rfl,trivial⟩ ?_
 refine H_seq ?_
 refine H_block ?_
 refine H_seq ?_
 refine H_region (l:=[_,_,_,_]) rfl ?_
 refine HO_move rfl rfl rfl ?_
 refine HO_call (first:=[]) (capt:=[]) (is:=[0]) (R:=[]) rfl rfl rfl rfl rfl Try.call15 rfl (made_zero _) ?_
 intro y7 hy7
 clear y7 hy7
 refine HO_not rfl rfl rfl ?_
 refine HO_assign rfl rfl rfl ?_
 refine HO_nil ?_
 refine H_env (ρ':=[(5,_),(0,_),(1,_)]) ⟨rfl,rfl,rfl,trivial⟩ ?_
 refine H_cond rfl (fun _ => ?_) (fun h => nomatch h)
 refine H_seq ?_
 refine H_region (l:=[_]) rfl ?_
 refine HO_assign rfl rfl rfl ?_
 refine HO_nil ?_
 refine H_env (ρ':=[(4,_)]) ⟨rfl,trivial⟩ ?_
 refine H_ret1 Try.results12 (.tmp rfl) (fun w hA => ⟨(),congrArg Ending.returned ?_,?_,?_⟩)
 ·rfl
 ·trivial
 ·exact hA.keep (m:=[yy]) (Y:=[_]) rfl
theorem lenno_nil  : Spec Try.prog 10 #[.pointer none] [] (β:=Unit) (fun y => .int .i64 (0)) (fun y => True) (fun y => []):=by
 refine Spec.enter (vs:=[_]) Try.func10 rfl Try.ntmps10 rfl (Nat.le_of_ble_eq_true rfl) (fun w0 ok0 => ?_)
 generalize hM0 : blks _ = M0
 have hMn:=@noM _ _ hM0 (by simp [Atom.dat,Atom.elem])
 refine H_seq ?_
 refine H_region (l:=[_]) rfl ?_
 refine HO_assign rfl rfl rfl ?_
 refine HO_nil ?_
 refine H_env (ρ':=[(0,_)]) ⟨rfl,trivial⟩ ?_
 refine H_seq ?_
 refine H_seq ?_
 refine H_region (l:=[_,_,_]) rfl ?_
 refine HO_move rfl rfl rfl ?_
 refine HO_call (first:=[]) (capt:=[]) (is:=[]) (R:=[]) rfl rfl rfl rfl rfl Try.call15 rfl made_nil ?_
 intro y4 hy4
 clear y4 hy4
 refine HO_not rfl rfl rfl ?_
 refine HO_nil ?_
 refine H_env (ρ':=[(5,_),(0,_)]) ⟨rfl,rfl,trivial⟩ ?_
 refine H_cond rfl (fun _ => ?_) (fun h => nomatch h)
 refine H_seq ?_
 refine H_region (l:=[_]) rfl ?_
 refine HO_assign rfl rfl rfl ?_
 refine HO_nil ?_
 refine H_env (ρ':=[(2,_)]) ⟨rfl,trivial⟩ ?_
 refine H_ret1 Try.results10 (.tmp rfl) (fun w hA => ⟨(),congrArg Ending.returned ?_,?_,?_⟩)
 ·rfl
 ·trivial
 ·exact hA.keep (m:=[]) (Y:=[]) rfl
theorem lenno_zero (g : Nat)   : Spec Try.prog 10 #[.pointer (some ⟨g,0,none⟩)] [.loc g [.slice none (0) 0,.int .i64 (0)] 37] (β:=Unit) (fun y => .int .i64 (0)) (fun y => True) (fun y => [.loc g [.slice none (0) 0,.int .i64 (0)] 37]):=by
 refine Spec.enter (vs:=[_]) Try.func10 rfl Try.ntmps10 rfl (Nat.le_of_ble_eq_true rfl) (fun w0 ok0 => ?_)
 generalize hM0 : blks _ = M0
 refine H_seq ?_
 refine H_region (l:=[_]) rfl ?_
 refine HO_assign rfl rfl rfl ?_
 refine HO_nil ?_
 refine H_env (ρ':=[(0,_)]) ⟨rfl,trivial⟩ ?_
 refine H_seq ?_
 refine H_seq ?_
 refine H_region (l:=[_,_,_]) rfl ?_
 refine HO_move rfl rfl rfl ?_
 refine HO_call (first:=[]) (capt:=[]) (is:=[0]) (R:=[]) rfl rfl rfl rfl rfl Try.call15 rfl (made_zero _) ?_
 intro y4 hy4
 clear y4 hy4
 refine HO_not rfl rfl rfl ?_
 refine HO_nil ?_
 refine H_env (ρ':=[(5,_),(0,_)]) ⟨rfl,rfl,trivial⟩ ?_
 refine H_cond rfl (fun _ => ?_) (fun h => nomatch h)
 refine H_seq ?_
 refine H_region (l:=[_]) rfl ?_
 refine HO_assign rfl rfl rfl ?_
 refine HO_nil ?_
 refine H_env (ρ':=[(2,_)]) ⟨rfl,trivial⟩ ?_
 refine H_ret1 Try.results10 (.tmp rfl) (fun w hA => ⟨(),congrArg Ending.returned ?_,?_,?_⟩)
 ·rfl
 ·trivial
 ·exact hA.keep (m:=[yy]) (Y:=[_]) rfl
theorem lookno_nil (i : Int)  : Spec Try.prog 4 #[.pointer none,.int .i64 (i)] [] (β:=Unit) (fun y => .tuple #[.agg #[.int .i64 (0),.int .i64 (0),.int .i64 (0),.int .i64 (0),.int .i64 (0),.int .i64 (0),.int .i64 (0),.int .i64 (0),.bool (false),.int .i64 (0),.slice none 0 0,.int .i64 (0),.int .i64 (0),.slice none 0 0,.slice none 0 0,.slice none 0 0],.int .i64 (1)]) (fun y => True) (fun y => []):=by
 refine Spec.enter (vs:=[_,_]) Try.func4 rfl Try.ntmps4 rfl (Nat.le_of_ble_eq_true rfl) (fun w0 ok0 => ?_)
 generalize hM0 : blks _ = M0
 have hMn:=@noM _ _ hM0 (by simp [Atom.dat,Atom.elem])
 refine H_seq ?_
 refine H_region (l:=[_,_]) rfl ?_
 refine HO_alloc (cs:=[_,_,_,_,_,_,_,_,_,_,_,_,_,_,_,_]) rfl rfl Try.zeroValue30 rfl ?_
 intro g4
 refine HO_assign rfl rfl rfl ?_
 refine HO_nil ?_
 refine H_env (ρ':=[(4,_),(0,_),(1,_)]) ⟨rfl,rfl,rfl,trivial⟩ ?_
 refine H_seq ?_
 refine H_seq ?_
 refine H_region (l:=[_,_,_,_]) rfl ?_
 iterate 2 refine HO_move rfl rfl rfl ?_
 refine HO_call (first:=[]) (capt:=[]) (is:=[]) (R:=[_]) rfl rfl rfl rfl rfl Try.call12 rfl (mayno_nil _) ?_
 intro y12 hy12
 clear y12 hy12
 refine HO_assign rfl rfl rfl ?_
 refine HO_nil ?_
 refine H_env (ρ':=[(6,_),(4,_),(0,_),(1,_)]) ⟨rfl,rfl,rfl,rfl,trivial⟩ ?_
 refine H_seq ?_
 refine H_region (l:=[_,_]) rfl ?_
 refine HO_move rfl rfl rfl ?_
 refine HO_bin rfl rfl rfl rfl (bin_lit (by decide) (fun _ => rfl)) ?_
 refine HO_nil ?_
 refine H_env (ρ':=[(14,_),(6,_),(4,_),(0,_),(1,_)]) ⟨rfl,rfl,rfl,rfl,rfl,trivial⟩ ?_
 refine H_cond rfl (fun _ => ?_) (fun h => nomatch h)
 refine H_seq ?_
 refine H_region (l:=[_,_,_,_]) rfl ?_
 refine HO_build (xo:=[]) (vs:=[]) rfl rfl rfl rfl (bd30__) ?_
 refine HO_move rfl rfl rfl ?_
 refine HO_store (i:=0) (j:=0) (us:=[]) (old:=[_,_,_,_,_,_,_,_,_,_,_,_,_,_,_,_]) (ts:=[]) (cs:=[_,_,_,_,_,_,_,_,_,_,_,_,_,_,_,_]) (R:=[]) (new:=[_,_,_,_,_,_,_,_,_,_,_,_,_,_,_,_]) rfl rfl rfl Try.sizeOf30 rfl (by simp [Value.oneCell']) rfl rfl rfl rfl rfl rfl ?_
 refine HO_assign rfl rfl rfl ?_
 refine HO_nil ?_
 refine H_env (ρ':=[(5,_),(4,_)]) ⟨rfl,rfl,trivial⟩ ?_
 refine H_ret2 Try.results4 (.cell rfl (fun w hA => run_loadVarA (cs:=[_,_,_,_,_,_,_,_,_,_,_,_,_,_,_,_]) (Try.isAgg30 w) (Try.sizeOf30 w) (Tells.cells (.loc _ _ _) (hA.get (i:=0) rfl)))) (.tmp rfl) (fun w hA => ⟨(),congrArg Ending.returned ?_,?_,?_⟩)
 ·rfl
 ·trivial
 ·exact hA.keep (m:=[nn]) (Y:=[]) rfl
theorem lookno_zero (g : Nat) (i : Int)  : Spec Try.prog 4 #[.pointer (some ⟨g,0,none⟩),.int .i64 (i)] [.loc g [.slice none (0) 0,.int .i64 (0)] 37] (β:=Unit) (fun y => .tuple #[.agg #[.int .i64 (0),.int .i64 (0),.int .i64 (0),.int .i64 (0),.int .i64 (0),.int .i64 (0),.int .i64 (0),.int .i64 (0),.bool (false),.int .i64 (0),.slice none 0 0,.int .i64 (0),.int .i64 (0),.slice none 0 0,.slice none 0 0,.slice none 0 0],.int .i64 (1)]) (fun y => True) (fun y => [.loc g [.slice none (0) 0,.int .i64 (0)] 37]):=by
 refine Spec.enter (vs:=[_,_]) Try.func4 rfl Try.ntmps4 rfl (Nat.le_of_ble_eq_true rfl) (fun w0 ok0 => ?_)
 generalize hM0 : blks _ = M0
 refine H_seq ?_
 refine H_region (l:=[_,_]) rfl ?_
 refine HO_alloc (cs:=[_,_,_,_,_,_,_,_,_,_,_,_,_,_,_,_]) rfl rfl Try.zeroValue30 rfl ?_
 intro g4
 refine HO_assign rfl rfl rfl ?_
 refine HO_nil ?_
 refine H_env (ρ':=[(4,_),(0,_),(1,_)]) ⟨rfl,rfl,rfl,trivial⟩ ?_
 refine H_seq ?_
 refine H_seq ?_
 refine H_region (l:=[_,_,_,_]) rfl ?_
 iterate 2 refine HO_move rfl rfl rfl ?_
 refine HO_call (first:=[]) (capt:=[]) (is:=[1]) (R:=[_]) rfl rfl rfl rfl rfl Try.call12 rfl (mayno_zero _ _) ?_
 intro y12 hy12
 clear y12 hy12
 refine HO_assign rfl rfl rfl ?_
 refine HO_nil ?_
 refine H_env (ρ':=[(6,_),(4,_),(0,_),(1,_)]) ⟨rfl,rfl,rfl,rfl,trivial⟩ ?_
 refine H_seq ?_
 refine H_region (l:=[_,_]) rfl ?_
 refine HO_move rfl rfl rfl ?_
 refine HO_bin rfl rfl rfl rfl (bin_lit (by decide) (fun _ => rfl)) ?_
 refine HO_nil ?_
 refine H_env (ρ':=[(14,_),(6,_),(4,_),(0,_),(1,_)]) ⟨rfl,rfl,rfl,rfl,rfl,trivial⟩ ?_
 refine H_cond rfl (fun _ => ?_) (fun h => nomatch h)
 refine H_seq ?_
 refine H_region (l:=[_,_,_,_]) rfl ?_
 refine HO_build (xo:=[]) (vs:=[]) rfl rfl rfl rfl (bd30__) ?_
 refine HO_move rfl rfl rfl ?_
 refine HO_store (i:=1) (j:=0) (us:=[]) (old:=[_,_,_,_,_,_,_,_,_,_,_,_,_,_,_,_]) (ts:=[]) (cs:=[_,_,_,_,_,_,_,_,_,_,_,_,_,_,_,_]) (R:=[_]) (new:=[_,_,_,_,_,_,_,_,_,_,_,_,_,_,_,_]) rfl rfl rfl Try.sizeOf30 rfl (by simp [Value.oneCell']) rfl rfl rfl rfl rfl rfl ?_
 refine HO_assign rfl rfl rfl ?_
 refine HO_nil ?_
 refine H_env (ρ':=[(5,_),(4,_)]) ⟨rfl,rfl,trivial⟩ ?_
 refine H_ret2 Try.results4 (.cell rfl (fun w hA => run_loadVarA (cs:=[_,_,_,_,_,_,_,_,_,_,_,_,_,_,_,_]) (Try.isAgg30 w) (Try.sizeOf30 w) (Tells.cells (.loc _ _ _) (hA.get (i:=0) rfl)))) (.tmp rfl) (fun w hA => ⟨(),congrArg Ending.returned ?_,?_,?_⟩)
 ·rfl
 ·trivial
 ·exact hA.keep (m:=[nn,yy]) (Y:=[_]) rfl
theorem dropno_nil (i : Int)  : Spec Try.prog 7 #[.pointer none,.int .i64 (i)] [] (β:=Unit) (fun y => .int .i64 (1)) (fun y => True) (fun y => []):=by
 refine Spec.enter (vs:=[_,_]) Try.func7 rfl Try.ntmps7 rfl (Nat.le_of_ble_eq_true rfl) (fun w0 ok0 => ?_)
 generalize hM0 : blks _ = M0
 have hMn:=@noM _ _ hM0 (by simp [Atom.dat,Atom.elem])
 refine H_seq ?_
 refine H_region (l:=[_]) rfl ?_
 refine HO_assign rfl rfl rfl ?_
 refine HO_nil ?_
 refine H_env (ρ':=[(0,_),(1,_)]) ⟨rfl,rfl,trivial⟩ ?_
 refine H_seq ?_
 refine H_region (l:=[_,_,_,_]) rfl ?_
 iterate 2 refine HO_move rfl rfl rfl ?_
 refine HO_call (first:=[]) (capt:=[]) (is:=[]) (R:=[]) rfl rfl rfl rfl rfl Try.call12 rfl (mayno_nil _) ?_
 intro y8 hy8
 clear y8 hy8
 refine HO_assign rfl rfl rfl ?_
 refine HO_nil ?_
 refine H_env (ρ':=[(5,_),(0,_),(1,_)]) ⟨rfl,rfl,rfl,trivial⟩ ?_
 refine H_seq ?_
 refine H_seq ?_
 refine H_region (l:=[_,_]) rfl ?_
 refine HO_move rfl rfl rfl ?_
 refine HO_bin rfl rfl rfl rfl (bin_lit (by decide) (fun _ => rfl)) ?_
 refine HO_nil ?_
 refine H_env (ρ':=[(10,_),(5,_),(0,_),(1,_)]) ⟨rfl,rfl,rfl,rfl,trivial⟩ ?_
 refine H_cond rfl (fun h => nomatch h) (fun _ => ?_)
 refine H_skip ?_
 refine H_seq ?_
 refine H_region (l:=[_,_]) rfl ?_
 refine HO_move rfl rfl rfl ?_
 refine HO_assign rfl rfl rfl ?_
 refine HO_nil ?_
 refine H_env (ρ':=[(4,_)]) ⟨rfl,trivial⟩ ?_
 refine H_ret1 Try.results7 (.tmp rfl) (fun w hA => ⟨(),congrArg Ending.returned ?_,?_,?_⟩)
 ·rfl
 ·trivial
 ·exact hA.keep (m:=[]) (Y:=[]) rfl
theorem dropno_zero (g : Nat) (i : Int)  : Spec Try.prog 7 #[.pointer (some ⟨g,0,none⟩),.int .i64 (i)] [.loc g [.slice none (0) 0,.int .i64 (0)] 37] (β:=Unit) (fun y => .int .i64 (1)) (fun y => True) (fun y => [.loc g [.slice none (0) 0,.int .i64 (0)] 37]):=by
 refine Spec.enter (vs:=[_,_]) Try.func7 rfl Try.ntmps7 rfl (Nat.le_of_ble_eq_true rfl) (fun w0 ok0 => ?_)
 generalize hM0 : blks _ = M0
 refine H_seq ?_
 refine H_region (l:=[_]) rfl ?_
 refine HO_assign rfl rfl rfl ?_
 refine HO_nil ?_
 refine H_env (ρ':=[(0,_),(1,_)]) ⟨rfl,rfl,trivial⟩ ?_
 refine H_seq ?_
 refine H_region (l:=[_,_,_,_]) rfl ?_
 iterate 2 refine HO_move rfl rfl rfl ?_
 refine HO_call (first:=[]) (capt:=[]) (is:=[0]) (R:=[]) rfl rfl rfl rfl rfl Try.call12 rfl (mayno_zero _ _) ?_
 intro y8 hy8
 clear y8 hy8
 refine HO_assign rfl rfl rfl ?_
 refine HO_nil ?_
 refine H_env (ρ':=[(5,_),(0,_),(1,_)]) ⟨rfl,rfl,rfl,trivial⟩ ?_
 refine H_seq ?_
 refine H_seq ?_
 refine H_region (l:=[_,_]) rfl ?_
 refine HO_move rfl rfl rfl ?_
 refine HO_bin rfl rfl rfl rfl (bin_lit (by decide) (fun _ => rfl)) ?_
 refine HO_nil ?_
 refine H_env (ρ':=[(10,_),(5,_),(0,_),(1,_)]) ⟨rfl,rfl,rfl,rfl,trivial⟩ ?_
 refine H_cond rfl (fun h => nomatch h) (fun _ => ?_)
 refine H_skip ?_
 refine H_seq ?_
 refine H_region (l:=[_,_]) rfl ?_
 refine HO_move rfl rfl rfl ?_
 refine HO_assign rfl rfl rfl ?_
 refine HO_nil ?_
 refine H_env (ρ':=[(4,_)]) ⟨rfl,trivial⟩ ?_
 refine H_ret1 Try.results7 (.tmp rfl) (fun w hA => ⟨(),congrArg Ending.returned ?_,?_,?_⟩)
 ·rfl
 ·trivial
 ·exact hA.keep (m:=[yy]) (Y:=[_]) rfl
theorem takeno_nil (i : Int)  : Spec Try.prog 5 #[.pointer none,.int .i64 (i)] [] (β:=Unit) (fun y => .tuple #[.agg #[.int .i64 (0),.int .i64 (0),.int .i64 (0),.int .i64 (0),.int .i64 (0),.int .i64 (0),.int .i64 (0),.int .i64 (0),.bool (false),.int .i64 (0),.slice none 0 0,.int .i64 (0),.int .i64 (0),.slice none 0 0,.slice none 0 0,.slice none 0 0],.int .i64 (1)]) (fun y => True) (fun y => []):=by
 refine Spec.enter (vs:=[_,_]) Try.func5 rfl Try.ntmps5 rfl (Nat.le_of_ble_eq_true rfl) (fun w0 ok0 => ?_)
 generalize hM0 : blks _ = M0
 have hMn:=@noM _ _ hM0 (by simp [Atom.dat,Atom.elem])
 refine H_seq ?_
 refine H_region (l:=[_,_]) rfl ?_
 refine HO_alloc (cs:=[_,_,_,_,_,_,_,_,_,_,_,_,_,_,_,_]) rfl rfl Try.zeroValue30 rfl ?_
 intro g4
 refine HO_assign rfl rfl rfl ?_
 refine HO_nil ?_
 refine H_env (ρ':=[(4,_),(0,_),(1,_)]) ⟨rfl,rfl,rfl,trivial⟩ ?_
 refine H_seq ?_
 refine H_region (l:=[_,_,_,_,_,_,_,_,_]) rfl ?_
 iterate 2 refine HO_move rfl rfl rfl ?_
 refine HO_call (first:=[]) (capt:=[]) (is:=[]) (R:=[_]) rfl rfl rfl rfl rfl Try.call4 rfl (lookno_nil _) ?_
 intro y11 hy11
 clear y11 hy11
 refine HO_move rfl rfl rfl ?_
 refine HO_extract (vs:=[_,_]) rfl rfl rfl rfl ?_
 refine HO_extract (vs:=[_,_]) rfl rfl rfl rfl ?_
 refine HO_alloc (cs:=[_,_,_,_,_,_,_,_,_,_,_,_,_,_,_,_]) rfl rfl Try.zeroValue30 rfl ?_
 intro g6
 refine HO_store (i:=0) (j:=0) (us:=[]) (old:=[_,_,_,_,_,_,_,_,_,_,_,_,_,_,_,_]) (ts:=[]) (cs:=[_,_,_,_,_,_,_,_,_,_,_,_,_,_,_,_]) (R:=[_]) (new:=[_,_,_,_,_,_,_,_,_,_,_,_,_,_,_,_]) rfl rfl rfl Try.sizeOf30 rfl (by simp [Value.oneCell']) rfl rfl rfl rfl rfl rfl ?_
 refine HO_assign rfl rfl rfl ?_
 refine HO_nil ?_
 refine H_env (ρ':=[(7,_),(6,_),(4,_),(0,_),(1,_)]) ⟨rfl,rfl,rfl,rfl,rfl,trivial⟩ ?_
 refine H_seq ?_
 refine H_region (l:=[_,_,_]) rfl ?_
 iterate 2 refine HO_move rfl rfl rfl ?_
 refine HO_call (first:=[]) (capt:=[]) (is:=[]) (R:=[_,_]) rfl rfl rfl rfl rfl Try.call7 rfl (dropno_nil _) ?_
 intro y16 hy16
 clear y16 hy16
 refine HO_nil ?_
 refine H_env (ρ':=[(7,_),(6,_),(4,_)]) ⟨rfl,rfl,rfl,trivial⟩ ?_
 refine H_seq ?_
 refine H_region (l:=[_,_,_,_]) rfl ?_
 refine HO_loadA (i:=0) (us:=[]) (cs:=[_,_,_,_,_,_,_,_,_,_,_,_,_,_,_,_]) (ts:=[]) rfl rfl rfl Try.isAgg30 Try.sizeOf30 rfl (.loc _ _ _) rfl rfl rfl rfl ?_
 refine HO_move rfl rfl rfl ?_
 refine HO_store (i:=1) (j:=0) (us:=[]) (old:=[_,_,_,_,_,_,_,_,_,_,_,_,_,_,_,_]) (ts:=[]) (cs:=[_,_,_,_,_,_,_,_,_,_,_,_,_,_,_,_]) (R:=[_]) (new:=[_,_,_,_,_,_,_,_,_,_,_,_,_,_,_,_]) rfl rfl rfl Try.sizeOf30 rfl (by simp [Value.oneCell']) rfl rfl rfl rfl rfl rfl ?_
 refine HO_assign rfl rfl rfl ?_
 refine HO_nil ?_
 refine H_env (ρ':=[(5,_),(4,_)]) ⟨rfl,rfl,trivial⟩ ?_
 refine H_world (kp [yy,nn] [_] rfl) ?_
 refine H_ret2 Try.results5 (.cell rfl (fun w hA => run_loadVarA (cs:=[_,_,_,_,_,_,_,_,_,_,_,_,_,_,_,_]) (Try.isAgg30 w) (Try.sizeOf30 w) (Tells.cells (.loc _ _ _) (hA.get (i:=0) rfl)))) (.tmp rfl) (fun w hA => ⟨(),congrArg Ending.returned ?_,?_,?_⟩)
 ·rfl
 ·trivial
 ·exact hA.keep (m:=[nn]) (Y:=[]) rfl
theorem takeno_zero (g : Nat) (i : Int)  : Spec Try.prog 5 #[.pointer (some ⟨g,0,none⟩),.int .i64 (i)] [.loc g [.slice none (0) 0,.int .i64 (0)] 37] (β:=Unit) (fun y => .tuple #[.agg #[.int .i64 (0),.int .i64 (0),.int .i64 (0),.int .i64 (0),.int .i64 (0),.int .i64 (0),.int .i64 (0),.int .i64 (0),.bool (false),.int .i64 (0),.slice none 0 0,.int .i64 (0),.int .i64 (0),.slice none 0 0,.slice none 0 0,.slice none 0 0],.int .i64 (1)]) (fun y => True) (fun y => [.loc g [.slice none (0) 0,.int .i64 (0)] 37]):=by
 refine Spec.enter (vs:=[_,_]) Try.func5 rfl Try.ntmps5 rfl (Nat.le_of_ble_eq_true rfl) (fun w0 ok0 => ?_)
 generalize hM0 : blks _ = M0
 refine H_seq ?_
 refine H_region (l:=[_,_]) rfl ?_
 refine HO_alloc (cs:=[_,_,_,_,_,_,_,_,_,_,_,_,_,_,_,_]) rfl rfl Try.zeroValue30 rfl ?_
 intro g4
 refine HO_assign rfl rfl rfl ?_
 refine HO_nil ?_
 refine H_env (ρ':=[(4,_),(0,_),(1,_)]) ⟨rfl,rfl,rfl,trivial⟩ ?_
 refine H_seq ?_
 refine H_region (l:=[_,_,_,_,_,_,_,_,_]) rfl ?_
 iterate 2 refine HO_move rfl rfl rfl ?_
 refine HO_call (first:=[]) (capt:=[]) (is:=[1]) (R:=[_]) rfl rfl rfl rfl rfl Try.call4 rfl (lookno_zero _ _) ?_
 intro y11 hy11
 clear y11 hy11
 refine HO_move rfl rfl rfl ?_
 refine HO_extract (vs:=[_,_]) rfl rfl rfl rfl ?_
 refine HO_extract (vs:=[_,_]) rfl rfl rfl rfl ?_
 refine HO_alloc (cs:=[_,_,_,_,_,_,_,_,_,_,_,_,_,_,_,_]) rfl rfl Try.zeroValue30 rfl ?_
 intro g6
 refine HO_store (i:=0) (j:=0) (us:=[]) (old:=[_,_,_,_,_,_,_,_,_,_,_,_,_,_,_,_]) (ts:=[]) (cs:=[_,_,_,_,_,_,_,_,_,_,_,_,_,_,_,_]) (R:=[_,_]) (new:=[_,_,_,_,_,_,_,_,_,_,_,_,_,_,_,_]) rfl rfl rfl Try.sizeOf30 rfl (by simp [Value.oneCell']) rfl rfl rfl rfl rfl rfl ?_
 refine HO_assign rfl rfl rfl ?_
 refine HO_nil ?_
 refine H_env (ρ':=[(7,_),(6,_),(4,_),(0,_),(1,_)]) ⟨rfl,rfl,rfl,rfl,rfl,trivial⟩ ?_
 refine H_seq ?_
 refine H_region (l:=[_,_,_]) rfl ?_
 iterate 2 refine HO_move rfl rfl rfl ?_
 refine HO_call (first:=[]) (capt:=[]) (is:=[1]) (R:=[_,_]) rfl rfl rfl rfl rfl Try.call7 rfl (dropno_zero _ _) ?_
 intro y16 hy16
 clear y16 hy16
 refine HO_nil ?_
 refine H_env (ρ':=[(7,_),(6,_),(4,_)]) ⟨rfl,rfl,rfl,trivial⟩ ?_
 refine H_seq ?_
 refine H_region (l:=[_,_,_,_]) rfl ?_
 refine HO_loadA (i:=1) (us:=[]) (cs:=[_,_,_,_,_,_,_,_,_,_,_,_,_,_,_,_]) (ts:=[]) rfl rfl rfl Try.isAgg30 Try.sizeOf30 rfl (.loc _ _ _) rfl rfl rfl rfl ?_
 refine HO_move rfl rfl rfl ?_
 refine HO_store (i:=2) (j:=0) (us:=[]) (old:=[_,_,_,_,_,_,_,_,_,_,_,_,_,_,_,_]) (ts:=[]) (cs:=[_,_,_,_,_,_,_,_,_,_,_,_,_,_,_,_]) (R:=[_,_]) (new:=[_,_,_,_,_,_,_,_,_,_,_,_,_,_,_,_]) rfl rfl rfl Try.sizeOf30 rfl (by simp [Value.oneCell']) rfl rfl rfl rfl rfl rfl ?_
 refine HO_assign rfl rfl rfl ?_
 refine HO_nil ?_
 refine H_env (ρ':=[(5,_),(4,_)]) ⟨rfl,rfl,trivial⟩ ?_
 refine H_world (kp [yy,yy,nn] [_,_] rfl) ?_
 refine H_ret2 Try.results5 (.cell rfl (fun w hA => run_loadVarA (cs:=[_,_,_,_,_,_,_,_,_,_,_,_,_,_,_,_]) (Try.isAgg30 w) (Try.sizeOf30 w) (Tells.cells (.loc _ _ _) (hA.get (i:=0) rfl)))) (.tmp rfl) (fun w hA => ⟨(),congrArg Ending.returned ?_,?_,?_⟩)
 ·rfl
 ·trivial
 ·exact hA.keep (m:=[nn,yy]) (Y:=[_]) rfl
theorem doubleno_nil (i : Int)  : Spec Try.prog 8 #[.pointer none,.int .i64 (i)] [] (β:=Unit) (fun y => .int .i64 (1)) (fun y => True) (fun y => []):=by
 refine Spec.enter (vs:=[_,_]) Try.func8 rfl Try.ntmps8 rfl (Nat.le_of_ble_eq_true rfl) (fun w0 ok0 => ?_)
 generalize hM0 : blks _ = M0
 have hMn:=@noM _ _ hM0 (by simp [Atom.dat,Atom.elem])
 refine H_seq ?_
 refine H_region (l:=[_]) rfl ?_
 refine HO_assign rfl rfl rfl ?_
 refine HO_nil ?_
 refine H_env (ρ':=[(0,_),(1,_)]) ⟨rfl,rfl,trivial⟩ ?_
 refine H_seq ?_
 refine H_seq ?_
 refine H_region (l:=[_,_,_,_]) rfl ?_
 iterate 2 refine HO_move rfl rfl rfl ?_
 refine HO_call (first:=[]) (capt:=[]) (is:=[]) (R:=[]) rfl rfl rfl rfl rfl Try.call12 rfl (mayno_nil _) ?_
 intro y8 hy8
 clear y8 hy8
 refine HO_assign rfl rfl rfl ?_
 refine HO_nil ?_
 refine H_env (ρ':=[(5,_),(0,_),(1,_)]) ⟨rfl,rfl,rfl,trivial⟩ ?_
 refine H_seq ?_
 refine H_region (l:=[_,_]) rfl ?_
 refine HO_move rfl rfl rfl ?_
 refine HO_bin rfl rfl rfl rfl (bin_lit (by decide) (fun _ => rfl)) ?_
 refine HO_nil ?_
 refine H_env (ρ':=[(10,_),(5,_),(0,_),(1,_)]) ⟨rfl,rfl,rfl,rfl,trivial⟩ ?_
 refine H_cond rfl (fun _ => ?_) (fun h => nomatch h)
 refine H_seq ?_
 refine H_region (l:=[_,_]) rfl ?_
 refine HO_move rfl rfl rfl ?_
 refine HO_assign rfl rfl rfl ?_
 refine HO_nil ?_
 refine H_env (ρ':=[(4,_)]) ⟨rfl,trivial⟩ ?_
 refine H_ret1 Try.results8 (.tmp rfl) (fun w hA => ⟨(),congrArg Ending.returned ?_,?_,?_⟩)
 ·rfl
 ·trivial
 ·exact hA.keep (m:=[]) (Y:=[]) rfl
theorem doubleno_zero (g : Nat) (i : Int)  : Spec Try.prog 8 #[.pointer (some ⟨g,0,none⟩),.int .i64 (i)] [.loc g [.slice none (0) 0,.int .i64 (0)] 37] (β:=Unit) (fun y => .int .i64 (1)) (fun y => True) (fun y => [.loc g [.slice none (0) 0,.int .i64 (0)] 37]):=by
 refine Spec.enter (vs:=[_,_]) Try.func8 rfl Try.ntmps8 rfl (Nat.le_of_ble_eq_true rfl) (fun w0 ok0 => ?_)
 generalize hM0 : blks _ = M0
 refine H_seq ?_
 refine H_region (l:=[_]) rfl ?_
 refine HO_assign rfl rfl rfl ?_
 refine HO_nil ?_
 refine H_env (ρ':=[(0,_),(1,_)]) ⟨rfl,rfl,trivial⟩ ?_
 refine H_seq ?_
 refine H_seq ?_
 refine H_region (l:=[_,_,_,_]) rfl ?_
 iterate 2 refine HO_move rfl rfl rfl ?_
 refine HO_call (first:=[]) (capt:=[]) (is:=[0]) (R:=[]) rfl rfl rfl rfl rfl Try.call12 rfl (mayno_zero _ _) ?_
 intro y8 hy8
 clear y8 hy8
 refine HO_assign rfl rfl rfl ?_
 refine HO_nil ?_
 refine H_env (ρ':=[(5,_),(0,_),(1,_)]) ⟨rfl,rfl,rfl,trivial⟩ ?_
 refine H_seq ?_
 refine H_region (l:=[_,_]) rfl ?_
 refine HO_move rfl rfl rfl ?_
 refine HO_bin rfl rfl rfl rfl (bin_lit (by decide) (fun _ => rfl)) ?_
 refine HO_nil ?_
 refine H_env (ρ':=[(10,_),(5,_),(0,_),(1,_)]) ⟨rfl,rfl,rfl,rfl,trivial⟩ ?_
 refine H_cond rfl (fun _ => ?_) (fun h => nomatch h)
 refine H_seq ?_
 refine H_region (l:=[_,_]) rfl ?_
 refine HO_move rfl rfl rfl ?_
 refine HO_assign rfl rfl rfl ?_
 refine HO_nil ?_
 refine H_env (ρ':=[(4,_)]) ⟨rfl,trivial⟩ ?_
 refine H_ret1 Try.results8 (.tmp rfl) (fun w hA => ⟨(),congrArg Ending.returned ?_,?_,?_⟩)
 ·rfl
 ·trivial
 ·exact hA.keep (m:=[yy]) (Y:=[_]) rfl
theorem spoilno_nil (i at_ bi : Int)  : Spec Try.prog 9 #[.pointer none,.int .i64 (i),.int .i64 (at_),.int .i64 (bi)] [] (β:=Unit) (fun y => .int .i64 (1)) (fun y => True) (fun y => []):=by
 refine Spec.enter (vs:=[_,_,_,_]) Try.func9 rfl Try.ntmps9 rfl (Nat.le_of_ble_eq_true rfl) (fun w0 ok0 => ?_)
 generalize hM0 : blks _ = M0
 have hMn:=@noM _ _ hM0 (by simp [Atom.dat,Atom.elem])
 refine H_seq ?_
 refine H_region (l:=[_]) rfl ?_
 refine HO_assign rfl rfl rfl ?_
 refine HO_nil ?_
 refine H_env (ρ':=[(0,_),(1,_),(2,_),(3,_)]) ⟨rfl,rfl,rfl,rfl,trivial⟩ ?_
 refine H_seq ?_
 refine H_seq ?_
 refine H_region (l:=[_,_,_,_]) rfl ?_
 iterate 2 refine HO_move rfl rfl rfl ?_
 refine HO_call (first:=[]) (capt:=[]) (is:=[]) (R:=[]) rfl rfl rfl rfl rfl Try.call12 rfl (mayno_nil _) ?_
 intro y12 hy12
 clear y12 hy12
 refine HO_assign rfl rfl rfl ?_
 refine HO_nil ?_
 refine H_env (ρ':=[(9,_),(0,_),(1,_),(2,_),(3,_)]) ⟨rfl,rfl,rfl,rfl,rfl,trivial⟩ ?_
 refine H_seq ?_
 refine H_region (l:=[_,_]) rfl ?_
 refine HO_move rfl rfl rfl ?_
 refine HO_bin rfl rfl rfl rfl (bin_lit (by decide) (fun _ => rfl)) ?_
 refine HO_nil ?_
 refine H_env (ρ':=[(14,_),(9,_),(0,_),(1,_),(2,_),(3,_)]) ⟨rfl,rfl,rfl,rfl,rfl,rfl,trivial⟩ ?_
 refine H_cond rfl (fun _ => ?_) (fun h => nomatch h)
 refine H_seq ?_
 refine H_region (l:=[_,_]) rfl ?_
 refine HO_move rfl rfl rfl ?_
 refine HO_assign rfl rfl rfl ?_
 refine HO_nil ?_
 refine H_env (ρ':=[(8,_)]) ⟨rfl,trivial⟩ ?_
 refine H_ret1 Try.results9 (.tmp rfl) (fun w hA => ⟨(),congrArg Ending.returned ?_,?_,?_⟩)
 ·rfl
 ·trivial
 ·exact hA.keep (m:=[]) (Y:=[]) rfl
theorem spoilno_zero (g : Nat) (i at_ bi : Int)  : Spec Try.prog 9 #[.pointer (some ⟨g,0,none⟩),.int .i64 (i),.int .i64 (at_),.int .i64 (bi)] [.loc g [.slice none (0) 0,.int .i64 (0)] 37] (β:=Unit) (fun y => .int .i64 (1)) (fun y => True) (fun y => [.loc g [.slice none (0) 0,.int .i64 (0)] 37]):=by
 refine Spec.enter (vs:=[_,_,_,_]) Try.func9 rfl Try.ntmps9 rfl (Nat.le_of_ble_eq_true rfl) (fun w0 ok0 => ?_)
 generalize hM0 : blks _ = M0
 refine H_seq ?_
 refine H_region (l:=[_]) rfl ?_
 refine HO_assign rfl rfl rfl ?_
 refine HO_nil ?_
 refine H_env (ρ':=[(0,_),(1,_),(2,_),(3,_)]) ⟨rfl,rfl,rfl,rfl,trivial⟩ ?_
 refine H_seq ?_
 refine H_seq ?_
 refine H_region (l:=[_,_,_,_]) rfl ?_
 iterate 2 refine HO_move rfl rfl rfl ?_
 refine HO_call (first:=[]) (capt:=[]) (is:=[0]) (R:=[]) rfl rfl rfl rfl rfl Try.call12 rfl (mayno_zero _ _) ?_
 intro y12 hy12
 clear y12 hy12
 refine HO_assign rfl rfl rfl ?_
 refine HO_nil ?_
 refine H_env (ρ':=[(9,_),(0,_),(1,_),(2,_),(3,_)]) ⟨rfl,rfl,rfl,rfl,rfl,trivial⟩ ?_
 refine H_seq ?_
 refine H_region (l:=[_,_]) rfl ?_
 refine HO_move rfl rfl rfl ?_
 refine HO_bin rfl rfl rfl rfl (bin_lit (by decide) (fun _ => rfl)) ?_
 refine HO_nil ?_
 refine H_env (ρ':=[(14,_),(9,_),(0,_),(1,_),(2,_),(3,_)]) ⟨rfl,rfl,rfl,rfl,rfl,rfl,trivial⟩ ?_
 refine H_cond rfl (fun _ => ?_) (fun h => nomatch h)
 refine H_seq ?_
 refine H_region (l:=[_,_]) rfl ?_
 refine HO_move rfl rfl rfl ?_
 refine HO_assign rfl rfl rfl ?_
 refine HO_nil ?_
 refine H_env (ρ':=[(8,_)]) ⟨rfl,trivial⟩ ?_
 refine H_ret1 Try.results9 (.tmp rfl) (fun w hA => ⟨(),congrArg Ending.returned ?_,?_,?_⟩)
 ·rfl
 ·trivial
 ·exact hA.keep (m:=[yy]) (Y:=[_]) rfl
theorem sendno_nil (mk mf mt me mi ml mc mr : Int) (rj : Bool) (hi : Int) (es : List Ent) (a9 : Option Addr) (c9 : Nat) (ix te : Int) (vo le : List Int) (a1 : Option Addr) (c1 : Nat) (a2 : Option Addr) (c2 : Nat) (da : List UInt8) (a3 : Option Addr) (c3 : Nat)  : Spec Try.prog 6 #[.pointer none,.agg #[.int .i64 (mk),.int .i64 (mf),.int .i64 (mt),.int .i64 (me),.int .i64 (mi),.int .i64 (ml),.int .i64 (mc),.int .i64 (mr),.bool (rj),.int .i64 (hi),.slice a9 (es.length) c9,.int .i64 (ix),.int .i64 (te),.slice a1 (vo.length) c1,.slice a2 (le.length) c2,.slice a3 (da.length) c3]] [.dat kEnt.sl (es) [.slice a9 (es.length) c9],.dat kInt.sl (vo) [.slice a1 (vo.length) c1],.dat kInt.sl (le) [.slice a2 (le.length) c2],.dat kByte.sl (da) [.slice a3 (da.length) c3]] (β:=Unit) (fun y => .int .i64 (1)) (fun y => True) (fun y => []):=by
 refine Spec.enter (vs:=[_,_]) Try.func6 rfl Try.ntmps6 rfl (Nat.le_of_ble_eq_true rfl) (fun w0 ok0 => ?_)
 generalize hM0 : blks _ = M0
 have hMn:=@noM _ _ hM0 (by simp [Atom.dat,Atom.elem])
 refine H_len_le (i:=0) rfl ?_
 intro hlen0
 refine H_len_le (i:=1) rfl ?_
 intro hlen1
 refine H_len_le (i:=2) rfl ?_
 intro hlen2
 refine H_seq ?_
 refine H_region (l:=[_,_]) rfl ?_
 refine HO_box (cs:=[_,_,_,_,_,_,_,_,_,_,_,_,_,_,_,_]) rfl rfl rfl rfl ?_
 intro g3
 refine HO_assign rfl rfl rfl ?_
 refine HO_nil ?_
 refine H_env (ρ':=[(3,_),(0,_)]) ⟨rfl,rfl,trivial⟩ ?_
 refine H_seq ?_
 refine H_block ?_
 refine H_seq ?_
 refine H_region (l:=[_,_,_,_]) rfl ?_
 refine HO_move rfl rfl rfl ?_
 refine HO_call (first:=[]) (capt:=[]) (is:=[]) (R:=[_,_,_,_,_]) rfl rfl rfl rfl rfl Try.call15 rfl made_nil ?_
 intro y7 hy7
 clear y7 hy7
 refine HO_not rfl rfl rfl ?_
 refine HO_assign rfl rfl rfl ?_
 refine HO_nil ?_
 refine H_env (ρ':=[(5,_),(3,_),(0,_)]) ⟨rfl,rfl,rfl,trivial⟩ ?_
 refine H_cond rfl (fun _ => ?_) (fun h => nomatch h)
 refine H_seq ?_
 refine H_region (l:=[_]) rfl ?_
 refine HO_assign rfl rfl rfl ?_
 refine HO_nil ?_
 refine H_env (ρ':=[(4,_)]) ⟨rfl,trivial⟩ ?_
 refine H_world (kp [nn,nn,nn,nn,nn] [] rfl) ?_
 refine H_ret1 Try.results6 (.tmp rfl) (fun w hA => ⟨(),congrArg Ending.returned ?_,?_,?_⟩)
 ·rfl
 ·trivial
 ·exact hA.keep (m:=[]) (Y:=[]) rfl
theorem sendno_zero (g : Nat) (mk mf mt me mi ml mc mr : Int) (rj : Bool) (hi : Int) (es : List Ent) (a9 : Option Addr) (c9 : Nat) (ix te : Int) (vo le : List Int) (a1 : Option Addr) (c1 : Nat) (a2 : Option Addr) (c2 : Nat) (da : List UInt8) (a3 : Option Addr) (c3 : Nat)  : Spec Try.prog 6 #[.pointer (some ⟨g,0,none⟩),.agg #[.int .i64 (mk),.int .i64 (mf),.int .i64 (mt),.int .i64 (me),.int .i64 (mi),.int .i64 (ml),.int .i64 (mc),.int .i64 (mr),.bool (rj),.int .i64 (hi),.slice a9 (es.length) c9,.int .i64 (ix),.int .i64 (te),.slice a1 (vo.length) c1,.slice a2 (le.length) c2,.slice a3 (da.length) c3]] [.loc g [.slice none (0) 0,.int .i64 (0)] 37,.dat kEnt.sl (es) [.slice a9 (es.length) c9],.dat kInt.sl (vo) [.slice a1 (vo.length) c1],.dat kInt.sl (le) [.slice a2 (le.length) c2],.dat kByte.sl (da) [.slice a3 (da.length) c3]] (β:=Unit) (fun y => .int .i64 (1)) (fun y => True) (fun y => [.loc g [.slice none (0) 0,.int .i64 (0)] 37]):=by
 refine Spec.enter (vs:=[_,_]) Try.func6 rfl Try.ntmps6 rfl (Nat.le_of_ble_eq_true rfl) (fun w0 ok0 => ?_)
 generalize hM0 : blks _ = M0
 refine H_len_le (i:=1) rfl ?_
 intro hlen1
 refine H_len_le (i:=2) rfl ?_
 intro hlen2
 refine H_len_le (i:=3) rfl ?_
 intro hlen3
 refine H_seq ?_
 refine H_region (l:=[_,_]) rfl ?_
 refine HO_box (cs:=[_,_,_,_,_,_,_,_,_,_,_,_,_,_,_,_]) rfl rfl rfl rfl ?_
 intro g3
 refine HO_assign rfl rfl rfl ?_
 refine HO_nil ?_
 refine H_env (ρ':=[(3,_),(0,_)]) ⟨rfl,rfl,trivial⟩ ?_
 refine H_seq ?_
 refine H_block ?_
 refine H_seq ?_
 refine H_region (l:=[_,_,_,_]) rfl ?_
 refine HO_move rfl rfl rfl ?_
 refine HO_call (first:=[]) (capt:=[]) (is:=[1]) (R:=[_,_,_,_,_]) rfl rfl rfl rfl rfl Try.call15 rfl (made_zero _) ?_
 intro y7 hy7
 clear y7 hy7
 refine HO_not rfl rfl rfl ?_
 refine HO_assign rfl rfl rfl ?_
 refine HO_nil ?_
 refine H_env (ρ':=[(5,_),(3,_),(0,_)]) ⟨rfl,rfl,rfl,trivial⟩ ?_
 refine H_cond rfl (fun _ => ?_) (fun h => nomatch h)
 refine H_seq ?_
 refine H_region (l:=[_]) rfl ?_
 refine HO_assign rfl rfl rfl ?_
 refine HO_nil ?_
 refine H_env (ρ':=[(4,_)]) ⟨rfl,trivial⟩ ?_
 refine H_world (kp [yy,nn,nn,nn,nn,nn] [_] rfl) ?_
 refine H_ret1 Try.results6 (.tmp rfl) (fun w hA => ⟨(),congrArg Ending.returned ?_,?_,?_⟩)
 ·rfl
 ·trivial
 ·exact hA.keep (m:=[yy]) (Y:=[_]) rfl
theorem NetNone_spec (kn : Int) (mk mf mt me mi ml mc mr : Int) (rj : Bool) (hi : Int) (es : List Ent) (a9 : Option Addr) (c9 : Nat) (ix te : Int) (vo le : List Int) (a1 : Option Addr) (c1 : Nat) (a2 : Option Addr) (c2 : Nat) (da : List UInt8) (a3 : Option Addr) (c3 : Nat) (na ka ba : Int)  : Spec Try.prog 3 #[.agg #[.int .i64 (kn),.int .i64 (mk),.int .i64 (mf),.int .i64 (mt),.int .i64 (me),.int .i64 (mi),.int .i64 (ml),.int .i64 (mc),.int .i64 (mr),.bool (rj),.int .i64 (hi),.slice a9 (es.length) c9,.int .i64 (ix),.int .i64 (te),.slice a1 (vo.length) c1,.slice a2 (le.length) c2,.slice a3 (da.length) c3,.int .i64 (na),.int .i64 (ka),.int .i64 (ba)]] [.dat kEnt.sl (es) [.slice a9 (es.length) c9],.dat kInt.sl (vo) [.slice a1 (vo.length) c1],.dat kInt.sl (le) [.slice a2 (le.length) c2],.dat kByte.sl (da) [.slice a3 (da.length) c3]] (β:=Unit) (fun y => .bool (true)) (fun y => True) (fun y => []):=by
 refine Spec.enter (vs:=[_]) Try.func3 rfl Try.ntmps3 rfl (Nat.le_of_ble_eq_true rfl) (fun w0 ok0 => ?_)
 generalize hM0 : blks _ = M0
 have hMn:=@noM _ _ hM0 (by simp [Atom.dat,Atom.elem])
 refine H_len_le (i:=0) rfl ?_
 intro hlen0
 refine H_len_le (i:=1) rfl ?_
 intro hlen1
 refine H_len_le (i:=2) rfl ?_
 intro hlen2
 refine H_seq ?_
 refine H_region (l:=[_,_]) rfl ?_
 refine HO_box (cs:=[_,_,_,_,_,_,_,_,_,_,_,_,_,_,_,_,_,_,_,_]) rfl rfl rfl rfl ?_
 intro g1
 refine HO_assign rfl rfl rfl ?_
 refine HO_nil ?_
 refine H_env (ρ':=[(1,_)]) ⟨rfl,trivial⟩ ?_
 refine H_seq ?_
 refine H_region (l:=[_]) rfl ?_
 refine HO_alloc (cs:=[_,_]) rfl rfl Try.zeroValue37 rfl ?_
 intro g3
 refine HO_nil ?_
 refine H_seq ?_
 refine H_seq ?_
 refine H_region (l:=[_,_]) rfl ?_
 refine HO_build (xo:=[(0,_),(1,_)]) (vs:=[_,_]) rfl rfl rfl rfl (bd39_0_1_pp) ?_
 refine HO_move rfl rfl rfl ?_
 refine HO_nil ?_
 refine H_env (ρ':=[(11,_),(10,_),(1,_)]) ⟨rfl,rfl,rfl,trivial⟩ ?_
 refine H_block ?_
 refine H_rounds 3 ?_
 refine H_rnd ?_
 refine H_seq ?_
 refine H_region (l:=[_]) rfl ?_
 refine HO_bin rfl rfl rfl rfl (bin_lit (by decide) (fun _ => rfl)) ?_
 refine HO_nil ?_
 refine H_seq ?_
 refine H_cond rfl (fun _ => ?_) (fun h => nomatch h)
 refine H_skip ?_
 refine H_seq ?_
 refine H_block ?_
 refine H_seq ?_
 refine H_region (l:=[_,_]) rfl ?_
 refine HO_indexV (j:=0) (cs:=[_,_]) rfl rfl rfl rfl Try.underlying39 Try.isAgg38 Try.sizeOf38 rfl (by decide) rfl ?_
 refine HO_assign rfl rfl rfl ?_
 refine HO_nil ?_
 refine H_env (ρ':=[(5,_),(11,_),(10,_),(1,_)]) ⟨rfl,rfl,rfl,rfl,trivial⟩ ?_
 refine H_seq ?_
 refine H_region (l:=[_,_,_,_,_,_,_,_,_,_]) rfl ?_
 refine HO_move rfl rfl rfl ?_
 refine HO_fieldAddr (r:=17) rfl rfl rfl Try.underlying32 rfl Try.sizeOf3 rfl ?_
 refine HO_load1 (i:=1) (j:=17) rfl rfl rfl Try.isAgg3 rfl (.loc _ _ _) rfl rfl ?_
 refine HO_call (first:=[]) (capt:=[]) (is:=[]) (R:=[_,_,_,_,_,_]) rfl rfl rfl rfl rfl Try.call4 rfl (lookno_nil _) ?_
 intro y18 hy18
 clear y18 hy18
 refine HO_move rfl rfl rfl ?_
 refine HO_extract (vs:=[_,_]) rfl rfl rfl rfl ?_
 refine HO_extract (vs:=[_,_]) rfl rfl rfl rfl ?_
 refine HO_alloc (cs:=[_,_,_,_,_,_,_,_,_,_,_,_,_,_,_,_]) rfl rfl Try.zeroValue30 rfl ?_
 intro g6
 refine HO_store (i:=0) (j:=0) (us:=[]) (old:=[_,_,_,_,_,_,_,_,_,_,_,_,_,_,_,_]) (ts:=[]) (cs:=[_,_,_,_,_,_,_,_,_,_,_,_,_,_,_,_]) (R:=[_,_,_,_,_,_]) (new:=[_,_,_,_,_,_,_,_,_,_,_,_,_,_,_,_]) rfl rfl rfl Try.sizeOf30 rfl (by simp [Value.oneCell']) rfl rfl rfl rfl rfl rfl ?_
 refine HO_assign rfl rfl rfl ?_
 refine HO_nil ?_
 refine H_env (ρ':=[(7,_),(5,_),(11,_),(10,_),(1,_)]) ⟨rfl,rfl,rfl,rfl,rfl,trivial⟩ ?_
 refine H_world (kp [nn,yy,yy,yy,yy,yy,yy] [_,_,_,_,_,_] rfl) ?_
 refine H_seq ?_
 refine H_region (l:=[_,_,_,_,_,_,_,_,_,_]) rfl ?_
 refine HO_move rfl rfl rfl ?_
 refine HO_fieldAddr (r:=17) rfl rfl rfl Try.underlying32 rfl Try.sizeOf3 rfl ?_
 refine HO_load1 (i:=1) (j:=17) rfl rfl rfl Try.isAgg3 rfl (.loc _ _ _) rfl rfl ?_
 refine HO_call (first:=[]) (capt:=[]) (is:=[]) (R:=[_,_,_,_,_,_]) rfl rfl rfl rfl rfl Try.call5 rfl (takeno_nil _) ?_
 intro y25 hy25
 clear y25 hy25
 refine HO_move rfl rfl rfl ?_
 refine HO_extract (vs:=[_,_]) rfl rfl rfl rfl ?_
 refine HO_extract (vs:=[_,_]) rfl rfl rfl rfl ?_
 refine HO_alloc (cs:=[_,_,_,_,_,_,_,_,_,_,_,_,_,_,_,_]) rfl rfl Try.zeroValue30 rfl ?_
 intro g8
 refine HO_store (i:=0) (j:=0) (us:=[]) (old:=[_,_,_,_,_,_,_,_,_,_,_,_,_,_,_,_]) (ts:=[]) (cs:=[_,_,_,_,_,_,_,_,_,_,_,_,_,_,_,_]) (R:=[_,_,_,_,_,_]) (new:=[_,_,_,_,_,_,_,_,_,_,_,_,_,_,_,_]) rfl rfl rfl Try.sizeOf30 rfl (by simp [Value.oneCell']) rfl rfl rfl rfl rfl rfl ?_
 refine HO_assign rfl rfl rfl ?_
 refine HO_nil ?_
 refine H_env (ρ':=[(9,_),(7,_),(5,_),(11,_),(10,_),(1,_)]) ⟨rfl,rfl,rfl,rfl,rfl,rfl,trivial⟩ ?_
 refine H_world (kp [nn,yy,yy,yy,yy,yy,yy] [_,_,_,_,_,_] rfl) ?_
 refine H_seq ?_
 refine H_region (l:=[_,_,_,_,_,_,_,_,_,_,_,_,_,_,_,_,_,_,_,_,_,_,_,_,_,_,_,_,_,_,_,_,_,_,_,_,_,_,_,_,_,_,_]) rfl ?_
 refine HO_move rfl rfl rfl ?_
 refine HO_fieldAddr (r:=1) rfl rfl rfl Try.underlying32 rfl Try.sizeOf30 rfl ?_
 refine HO_loadA (i:=1) (us:=[_]) (cs:=[_,_,_,_,_,_,_,_,_,_,_,_,_,_,_,_]) (ts:=[_,_,_]) rfl rfl rfl Try.isAgg30 Try.sizeOf30 rfl (.loc _ _ _) rfl rfl rfl rfl ?_
 refine HO_dup (i:=2) rfl rfl ?_
 refine HO_dup (i:=4) rfl rfl ?_
 refine HO_dup (i:=6) rfl rfl ?_
 refine HO_dup (i:=8) rfl rfl ?_
 refine HO_call (first:=[]) (capt:=[]) (is:=[0,0,0,0]) (R:=[_,_,_,_,_,_]) rfl rfl rfl rfl rfl Try.call6 rfl (sendno_nil _ _ _ _ _ _ _ _ _ _ _ _ _ _ _ _ _ _ _ _ _ _ _ _) ?_
 intro y31 hy31
 clear y31 hy31
 refine HO_bin rfl rfl rfl rfl (bin_lit (by decide) (fun _ => rfl)) ?_
 iterate 2 refine HO_move rfl rfl rfl ?_
 refine HO_bin rfl rfl rfl rfl (bin_lit (by decide) (fun _ => rfl)) ?_
 refine HO_pick_f rfl rfl rfl rfl ?_
 iterate 2 refine HO_move rfl rfl rfl ?_
 refine HO_bin rfl rfl rfl rfl (bin_lit (by decide) (fun _ => rfl)) ?_
 refine HO_pick_f rfl rfl rfl rfl ?_
 iterate 2 refine HO_move rfl rfl rfl ?_
 refine HO_fieldAddr (r:=17) rfl rfl rfl Try.underlying32 rfl Try.sizeOf3 rfl ?_
 refine HO_load1 (i:=1) (j:=17) rfl rfl rfl Try.isAgg3 rfl (.loc _ _ _) rfl rfl ?_
 refine HO_call (first:=[]) (capt:=[]) (is:=[]) (R:=[_,_,_,_,_,_]) rfl rfl rfl rfl rfl Try.call7 rfl (dropno_nil _) ?_
 intro y45 hy45
 clear y45 hy45
 refine HO_bin rfl rfl rfl rfl (bin_lit (by decide) (fun _ => rfl)) ?_
 refine HO_pick_f rfl rfl rfl rfl ?_
 iterate 2 refine HO_move rfl rfl rfl ?_
 refine HO_fieldAddr (r:=17) rfl rfl rfl Try.underlying32 rfl Try.sizeOf3 rfl ?_
 refine HO_load1 (i:=1) (j:=17) rfl rfl rfl Try.isAgg3 rfl (.loc _ _ _) rfl rfl ?_
 refine HO_call (first:=[]) (capt:=[]) (is:=[]) (R:=[_,_,_,_,_,_]) rfl rfl rfl rfl rfl Try.call8 rfl (doubleno_nil _) ?_
 intro y52 hy52
 clear y52 hy52
 refine HO_bin rfl rfl rfl rfl (bin_lit (by decide) (fun _ => rfl)) ?_
 refine HO_pick_f rfl rfl rfl rfl ?_
 iterate 2 refine HO_move rfl rfl rfl ?_
 refine HO_fieldAddr (r:=17) rfl rfl rfl Try.underlying32 rfl Try.sizeOf3 rfl ?_
 refine HO_load1 (i:=1) (j:=17) rfl rfl rfl Try.isAgg3 rfl (.loc _ _ _) rfl rfl ?_
 refine HO_fieldAddr (r:=18) rfl rfl rfl Try.underlying32 rfl Try.sizeOf3 rfl ?_
 refine HO_load1 (i:=1) (j:=18) rfl rfl rfl Try.isAgg3 rfl (.loc _ _ _) rfl rfl ?_
 refine HO_fieldAddr (r:=19) rfl rfl rfl Try.underlying32 rfl Try.sizeOf3 rfl ?_
 refine HO_load1 (i:=1) (j:=19) rfl rfl rfl Try.isAgg3 rfl (.loc _ _ _) rfl rfl ?_
 refine HO_call (first:=[]) (capt:=[]) (is:=[]) (R:=[_,_,_,_,_,_]) rfl rfl rfl rfl rfl Try.call9 rfl (spoilno_nil _ _ _) ?_
 intro y63 hy63
 clear y63 hy63
 refine HO_bin rfl rfl rfl rfl (bin_lit (by decide) (fun _ => rfl)) ?_
 refine HO_pick_f rfl rfl rfl rfl ?_
 iterate 2 refine HO_move rfl rfl rfl ?_
 refine HO_call (first:=[]) (capt:=[]) (is:=[]) (R:=[_,_,_,_,_,_]) rfl rfl rfl rfl rfl Try.call10 rfl lenno_nil ?_
 intro y68 hy68
 clear y68 hy68
 refine HO_bin rfl rfl rfl rfl (bin_lit (by decide) (fun _ => rfl)) ?_
 refine HO_pick_f rfl rfl rfl rfl ?_
 refine HO_nil ?_
 refine H_env (ρ':=[(70,_),(69,_),(68,_),(67,_),(64,_),(63,_),(62,_),(61,_),(60,_),(59,_),(58,_),(57,_),(56,_),(53,_),(52,_),(51,_),(50,_),(49,_),(46,_),(45,_),(44,_),(43,_),(42,_),(39,_),(38,_),(35,_),(34,_),(11,_),(10,_),(1,_)]) ⟨rfl,rfl,rfl,rfl,rfl,rfl,rfl,rfl,rfl,rfl,rfl,rfl,rfl,rfl,rfl,rfl,rfl,rfl,rfl,rfl,rfl,rfl,rfl,rfl,rfl,rfl,rfl,rfl,rfl,rfl,trivial⟩ ?_
 refine H_cond rfl (fun h => nomatch h) (fun _ => ?_)
 refine H_skip ?_
 refine H_blk ?_
 refine H_region (l:=[_,_]) rfl ?_
 refine HO_bin (r:=.int .i64 (1)) rfl rfl rfl rfl (bin_lit (by decide) (fun _ => rfl)) ?_
 refine HO_move rfl rfl rfl ?_
 refine HO_nil ?_
 refine H_env (ρ':=[(11,_),(69,_),(68,_),(67,_),(64,_),(63,_),(62,_),(61,_),(60,_),(59,_),(58,_),(57,_),(56,_),(53,_),(52,_),(51,_),(50,_),(49,_),(46,_),(45,_),(44,_),(43,_),(42,_),(39,_),(38,_),(35,_),(34,_),(10,_),(1,_)]) ⟨rfl,rfl,rfl,rfl,rfl,rfl,rfl,rfl,rfl,rfl,rfl,rfl,rfl,rfl,rfl,rfl,rfl,rfl,rfl,rfl,rfl,rfl,rfl,rfl,rfl,rfl,rfl,rfl,rfl,trivial⟩ ?_
 refine H_rnd ?_
 refine H_seq ?_
 refine H_region (l:=[_]) rfl ?_
 refine HO_bin rfl rfl rfl rfl (bin_lit (by decide) (fun _ => rfl)) ?_
 refine HO_nil ?_
 refine H_seq ?_
 refine H_cond rfl (fun _ => ?_) (fun h => nomatch h)
 refine H_skip ?_
 refine H_seq ?_
 refine H_block ?_
 refine H_seq ?_
 refine H_region (l:=[_,_]) rfl ?_
 refine HO_indexV (j:=1) (cs:=[_,_]) rfl rfl rfl rfl Try.underlying39 Try.isAgg38 Try.sizeOf38 rfl (by decide) rfl ?_
 refine HO_assign rfl rfl rfl ?_
 refine HO_nil ?_
 refine H_env (ρ':=[(5,_),(11,_),(69,_),(68,_),(67,_),(64,_),(63,_),(62,_),(61,_),(60,_),(59,_),(58,_),(57,_),(56,_),(53,_),(52,_),(51,_),(50,_),(49,_),(46,_),(45,_),(44,_),(43,_),(42,_),(39,_),(38,_),(35,_),(34,_),(10,_),(1,_)]) ⟨rfl,rfl,rfl,rfl,rfl,rfl,rfl,rfl,rfl,rfl,rfl,rfl,rfl,rfl,rfl,rfl,rfl,rfl,rfl,rfl,rfl,rfl,rfl,rfl,rfl,rfl,rfl,rfl,rfl,rfl,trivial⟩ ?_
 refine H_seq ?_
 refine H_region (l:=[_,_,_,_,_,_,_,_,_,_]) rfl ?_
 refine HO_move rfl rfl rfl ?_
 refine HO_fieldAddr (r:=17) rfl rfl rfl Try.underlying32 rfl Try.sizeOf3 rfl ?_
 refine HO_load1 (i:=1) (j:=17) rfl rfl rfl Try.isAgg3 rfl (.loc _ _ _) rfl rfl ?_
 refine HO_call (first:=[]) (capt:=[]) (is:=[0]) (R:=[_,_,_,_,_]) rfl rfl rfl rfl rfl Try.call4 rfl (lookno_zero _ _) ?_
 intro y18 hy18
 clear y18 hy18
 refine HO_move rfl rfl rfl ?_
 refine HO_extract (vs:=[_,_]) rfl rfl rfl rfl ?_
 refine HO_extract (vs:=[_,_]) rfl rfl rfl rfl ?_
 refine HO_alloc (cs:=[_,_,_,_,_,_,_,_,_,_,_,_,_,_,_,_]) rfl rfl Try.zeroValue30 rfl ?_
 intro g6
 refine HO_store (i:=0) (j:=0) (us:=[]) (old:=[_,_,_,_,_,_,_,_,_,_,_,_,_,_,_,_]) (ts:=[]) (cs:=[_,_,_,_,_,_,_,_,_,_,_,_,_,_,_,_]) (R:=[_,_,_,_,_,_]) (new:=[_,_,_,_,_,_,_,_,_,_,_,_,_,_,_,_]) rfl rfl rfl Try.sizeOf30 rfl (by simp [Value.oneCell']) rfl rfl rfl rfl rfl rfl ?_
 refine HO_assign rfl rfl rfl ?_
 refine HO_nil ?_
 refine H_env (ρ':=[(7,_),(5,_),(11,_),(69,_),(68,_),(67,_),(64,_),(63,_),(62,_),(61,_),(60,_),(59,_),(58,_),(57,_),(56,_),(53,_),(52,_),(51,_),(50,_),(49,_),(46,_),(45,_),(44,_),(43,_),(42,_),(39,_),(38,_),(35,_),(34,_),(10,_),(1,_)]) ⟨rfl,rfl,rfl,rfl,rfl,rfl,rfl,rfl,rfl,rfl,rfl,rfl,rfl,rfl,rfl,rfl,rfl,rfl,rfl,rfl,rfl,rfl,rfl,rfl,rfl,rfl,rfl,rfl,rfl,rfl,rfl,trivial⟩ ?_
 refine H_world (kp [nn,yy,yy,yy,yy,yy,yy] [_,_,_,_,_,_] rfl) ?_
 refine H_seq ?_
 refine H_region (l:=[_,_,_,_,_,_,_,_,_,_]) rfl ?_
 refine HO_move rfl rfl rfl ?_
 refine HO_fieldAddr (r:=17) rfl rfl rfl Try.underlying32 rfl Try.sizeOf3 rfl ?_
 refine HO_load1 (i:=1) (j:=17) rfl rfl rfl Try.isAgg3 rfl (.loc _ _ _) rfl rfl ?_
 refine HO_call (first:=[]) (capt:=[]) (is:=[0]) (R:=[_,_,_,_,_]) rfl rfl rfl rfl rfl Try.call5 rfl (takeno_zero _ _) ?_
 intro y25 hy25
 clear y25 hy25
 refine HO_move rfl rfl rfl ?_
 refine HO_extract (vs:=[_,_]) rfl rfl rfl rfl ?_
 refine HO_extract (vs:=[_,_]) rfl rfl rfl rfl ?_
 refine HO_alloc (cs:=[_,_,_,_,_,_,_,_,_,_,_,_,_,_,_,_]) rfl rfl Try.zeroValue30 rfl ?_
 intro g8
 refine HO_store (i:=0) (j:=0) (us:=[]) (old:=[_,_,_,_,_,_,_,_,_,_,_,_,_,_,_,_]) (ts:=[]) (cs:=[_,_,_,_,_,_,_,_,_,_,_,_,_,_,_,_]) (R:=[_,_,_,_,_,_]) (new:=[_,_,_,_,_,_,_,_,_,_,_,_,_,_,_,_]) rfl rfl rfl Try.sizeOf30 rfl (by simp [Value.oneCell']) rfl rfl rfl rfl rfl rfl ?_
 refine HO_assign rfl rfl rfl ?_
 refine HO_nil ?_
 refine H_env (ρ':=[(9,_),(7,_),(5,_),(11,_),(69,_),(68,_),(67,_),(64,_),(63,_),(62,_),(61,_),(60,_),(59,_),(58,_),(57,_),(56,_),(53,_),(52,_),(51,_),(50,_),(49,_),(46,_),(45,_),(44,_),(43,_),(42,_),(39,_),(38,_),(35,_),(34,_),(10,_),(1,_)]) ⟨rfl,rfl,rfl,rfl,rfl,rfl,rfl,rfl,rfl,rfl,rfl,rfl,rfl,rfl,rfl,rfl,rfl,rfl,rfl,rfl,rfl,rfl,rfl,rfl,rfl,rfl,rfl,rfl,rfl,rfl,rfl,rfl,trivial⟩ ?_
 refine H_world (kp [nn,yy,yy,yy,yy,yy,yy] [_,_,_,_,_,_] rfl) ?_
 refine H_seq ?_
 refine H_region (l:=[_,_,_,_,_,_,_,_,_,_,_,_,_,_,_,_,_,_,_,_,_,_,_,_,_,_,_,_,_,_,_,_,_,_,_,_,_,_,_,_,_,_,_]) rfl ?_
 refine HO_move rfl rfl rfl ?_
 refine HO_fieldAddr (r:=1) rfl rfl rfl Try.underlying32 rfl Try.sizeOf30 rfl ?_
 refine HO_loadA (i:=1) (us:=[_]) (cs:=[_,_,_,_,_,_,_,_,_,_,_,_,_,_,_,_]) (ts:=[_,_,_]) rfl rfl rfl Try.isAgg30 Try.sizeOf30 rfl (.loc _ _ _) rfl rfl rfl rfl ?_
 refine HO_dup (i:=2) rfl rfl ?_
 refine HO_dup (i:=4) rfl rfl ?_
 refine HO_dup (i:=6) rfl rfl ?_
 refine HO_dup (i:=8) rfl rfl ?_
 refine HO_call (first:=[]) (capt:=[]) (is:=[0,0,0,0,0]) (R:=[_,_,_,_,_]) rfl rfl rfl rfl rfl Try.call6 rfl (sendno_zero _ _ _ _ _ _ _ _ _ _ _ _ _ _ _ _ _ _ _ _ _ _ _ _ _) ?_
 intro y31 hy31
 clear y31 hy31
 refine HO_bin rfl rfl rfl rfl (bin_lit (by decide) (fun _ => rfl)) ?_
 iterate 2 refine HO_move rfl rfl rfl ?_
 refine HO_bin rfl rfl rfl rfl (bin_lit (by decide) (fun _ => rfl)) ?_
 refine HO_pick_f rfl rfl rfl rfl ?_
 iterate 2 refine HO_move rfl rfl rfl ?_
 refine HO_bin rfl rfl rfl rfl (bin_lit (by decide) (fun _ => rfl)) ?_
 refine HO_pick_f rfl rfl rfl rfl ?_
 iterate 2 refine HO_move rfl rfl rfl ?_
 refine HO_fieldAddr (r:=17) rfl rfl rfl Try.underlying32 rfl Try.sizeOf3 rfl ?_
 refine HO_load1 (i:=1) (j:=17) rfl rfl rfl Try.isAgg3 rfl (.loc _ _ _) rfl rfl ?_
 refine HO_call (first:=[]) (capt:=[]) (is:=[0]) (R:=[_,_,_,_,_]) rfl rfl rfl rfl rfl Try.call7 rfl (dropno_zero _ _) ?_
 intro y45 hy45
 clear y45 hy45
 refine HO_bin rfl rfl rfl rfl (bin_lit (by decide) (fun _ => rfl)) ?_
 refine HO_pick_f rfl rfl rfl rfl ?_
 iterate 2 refine HO_move rfl rfl rfl ?_
 refine HO_fieldAddr (r:=17) rfl rfl rfl Try.underlying32 rfl Try.sizeOf3 rfl ?_
 refine HO_load1 (i:=1) (j:=17) rfl rfl rfl Try.isAgg3 rfl (.loc _ _ _) rfl rfl ?_
 refine HO_call (first:=[]) (capt:=[]) (is:=[0]) (R:=[_,_,_,_,_]) rfl rfl rfl rfl rfl Try.call8 rfl (doubleno_zero _ _) ?_
 intro y52 hy52
 clear y52 hy52
 refine HO_bin rfl rfl rfl rfl (bin_lit (by decide) (fun _ => rfl)) ?_
 refine HO_pick_f rfl rfl rfl rfl ?_
 iterate 2 refine HO_move rfl rfl rfl ?_
 refine HO_fieldAddr (r:=17) rfl rfl rfl Try.underlying32 rfl Try.sizeOf3 rfl ?_
 refine HO_load1 (i:=1) (j:=17) rfl rfl rfl Try.isAgg3 rfl (.loc _ _ _) rfl rfl ?_
 refine HO_fieldAddr (r:=18) rfl rfl rfl Try.underlying32 rfl Try.sizeOf3 rfl ?_
 refine HO_load1 (i:=1) (j:=18) rfl rfl rfl Try.isAgg3 rfl (.loc _ _ _) rfl rfl ?_
 refine HO_fieldAddr (r:=19) rfl rfl rfl Try.underlying32 rfl Try.sizeOf3 rfl ?_
 refine HO_load1 (i:=1) (j:=19) rfl rfl rfl Try.isAgg3 rfl (.loc _ _ _) rfl rfl ?_
 refine HO_call (first:=[]) (capt:=[]) (is:=[0]) (R:=[_,_,_,_,_]) rfl rfl rfl rfl rfl Try.call9 rfl (spoilno_zero _ _ _ _) ?_
 intro y63 hy63
 clear y63 hy63
 refine HO_bin rfl rfl rfl rfl (bin_lit (by decide) (fun _ => rfl)) ?_
 refine HO_pick_f rfl rfl rfl rfl ?_
 iterate 2 refine HO_move rfl rfl rfl ?_
 refine HO_call (first:=[]) (capt:=[]) (is:=[0]) (R:=[_,_,_,_,_]) rfl rfl rfl rfl rfl Try.call10 rfl (lenno_zero _) ?_
 intro y68 hy68
 clear y68 hy68
 refine HO_bin rfl rfl rfl rfl (bin_lit (by decide) (fun _ => rfl)) ?_
 refine HO_pick_f rfl rfl rfl rfl ?_
 refine HO_nil ?_
 refine H_env (ρ':=[(70,_),(69,_),(68,_),(67,_),(64,_),(63,_),(62,_),(61,_),(60,_),(59,_),(58,_),(57,_),(56,_),(53,_),(52,_),(51,_),(50,_),(49,_),(46,_),(45,_),(44,_),(43,_),(42,_),(39,_),(38,_),(35,_),(34,_),(11,_),(10,_),(1,_)]) ⟨rfl,rfl,rfl,rfl,rfl,rfl,rfl,rfl,rfl,rfl,rfl,rfl,rfl,rfl,rfl,rfl,rfl,rfl,rfl,rfl,rfl,rfl,rfl,rfl,rfl,rfl,rfl,rfl,rfl,rfl,trivial⟩ ?_
 refine H_cond rfl (fun h => nomatch h) (fun _ => ?_)
 refine H_skip ?_
 refine H_blk ?_
 refine H_region (l:=[_,_]) rfl ?_
 refine HO_bin (r:=.int .i64 (2)) rfl rfl rfl rfl (bin_lit (by decide) (fun _ => rfl)) ?_
 refine HO_move rfl rfl rfl ?_
 refine HO_nil ?_
 refine H_env (ρ':=[(11,_),(69,_),(68,_),(67,_),(64,_),(63,_),(62,_),(61,_),(60,_),(59,_),(58,_),(57,_),(56,_),(53,_),(52,_),(51,_),(50,_),(49,_),(46,_),(45,_),(44,_),(43,_),(42,_),(39,_),(38,_),(35,_),(34,_),(10,_),(1,_)]) ⟨rfl,rfl,rfl,rfl,rfl,rfl,rfl,rfl,rfl,rfl,rfl,rfl,rfl,rfl,rfl,rfl,rfl,rfl,rfl,rfl,rfl,rfl,rfl,rfl,rfl,rfl,rfl,rfl,rfl,trivial⟩ ?_
 refine H_rnd ?_
 refine H_seq ?_
 refine H_region (l:=[_]) rfl ?_
 refine HO_bin rfl rfl rfl rfl (bin_lit (by decide) (fun _ => rfl)) ?_
 refine HO_nil ?_
 refine H_seq ?_
 refine H_cond rfl (fun h => nomatch h) (fun _ => ?_)
 refine H_exit rfl ?_
 refine H_seq ?_
 refine H_region (l:=[_,_]) rfl ?_
 refine HO_call (first:=[]) (capt:=[]) (is:=[]) (R:=[_,_,_,_,_,_]) rfl rfl rfl rfl rfl Try.call11 rfl lives24_spec ?_
 intro y72 hy72
 clear y72 hy72
 refine HO_assign rfl rfl rfl ?_
 refine HO_nil ?_
 refine H_env (ρ':=[(2,_)]) ⟨rfl,trivial⟩ ?_
 refine H_world (kp [nn,nn,nn,nn,nn,nn] [] rfl) ?_
 refine H_ret1 Try.results3 (.tmp rfl) (fun w hA => ⟨(),congrArg Ending.returned ?_,?_,?_⟩)
 ·rfl
 ·trivial
 ·exact hA.keep (m:=[]) (Y:=[]) rfl
end Go.Wk
