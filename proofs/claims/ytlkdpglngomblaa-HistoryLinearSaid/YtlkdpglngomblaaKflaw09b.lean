/- Contracts of the program's functions, each proved by walking its code. -/
import Derived.Test.YtlkdpglngomblaaKfmod3
import Derived.Test.YtlkdpglngomblaaCmd
import Derived.Test.YtlkdpglngomblaaWk17
set_option maxRecDepth 100000
set_option linter.unusedVariables false
set_option linter.unusedSimpArgs false
namespace Go.Wk.Flaw09b
open Go Go.RowKit Go.Proofs Go.Wk

end Go.Wk.Flaw09b
namespace Go.Wk
open Go Go.RowKit Go.Proofs Flaw09b 
theorem rreads_spec (ki se sq : Int) (ke ol va ti : ByteArray) (li : Int)  : Spec Try.prog 54 #[.agg #[.int .i64 (ki),.int .i64 (se),.int .i64 (sq),.string (ke),.string (ol),.string (va),.string (ti),.int .i64 (li)]] [] (β:=Unit) (fun y => .bool (Cmd.reads ⟨ki,se,sq,ke,ol,va,ti,li⟩)) (fun y => True) (fun y => []):=by
 refine Spec.enter (vs:=[_]) Try.func54 rfl Try.ntmps54 rfl (Nat.le_of_ble_eq_true rfl) (fun w0 ok0 => ?_)
 generalize hM0 : blks _ = M0
 have hMn:=@noM _ _ hM0 (by simp [Atom.dat,Atom.elem])
 refine H_seq ?_
 refine H_region (l:=[_,_]) rfl ?_
 refine HO_box (cs:=[_,_,_,_,_,_,_,_]) rfl rfl rfl rfl ?_
 intro g1
 refine HO_assign rfl rfl rfl ?_
 refine HO_nil ?_
 refine H_env (ρ':=[(1,_)]) ⟨rfl,trivial⟩ ?_
 refine H_seq ?_
 refine H_seq ?_
 refine H_region (l:=[_,_,_,_,_,_,_,_,_,_,_,_,_,_,_,_,_,_]) rfl ?_
 refine HO_fieldAddr (r:=1) rfl rfl rfl Try.underlying36 rfl Try.sizeOf3 rfl ?_
 refine HO_load1 (i:=0) (j:=1) rfl rfl rfl Try.isAgg3 rfl (.loc _ _ _) rfl rfl ?_
 refine HO_bin rfl rfl rfl rfl bin_neq ?_
 refine HO_move rfl rfl rfl ?_
 refine HO_split (d:=6) rfl ?_ ?_
 ·intro h6
  replace h6:=dT h6
  iterate 3 refine HO_no rfl rfl rfl ?_
  refine HO_pick_t rfl rfl rfl rfl ?_
  refine HO_move rfl rfl rfl ?_
  iterate 8 refine HO_no rfl rfl rfl ?_
  refine HO_pick_t rfl rfl rfl rfl ?_
  refine HO_nil ?_
  refine H_env (ρ':=[(20,_),(1,_)]) ⟨rfl,rfl,trivial⟩ ?_
  refine H_cond rfl (fun _ => ?_) (fun h => nomatch h)
  refine H_seq ?_
  refine H_region (l:=[_]) rfl ?_
  refine HO_assign rfl rfl rfl ?_
  refine HO_nil ?_
  refine H_env (ρ':=[(2,_)]) ⟨rfl,trivial⟩ ?_
  refine H_world (kp [nn] [] rfl) ?_
  refine H_ret1 Try.results54 (.tmp rfl) (fun w hA => ⟨(),congrArg Ending.returned ?_,?_,?_⟩)
  ·(exact congrArg Value.bool (by first | (simp [Cmd.reads, *];done) | (simp_all [Cmd.reads];done)))
  ·trivial
  ·exact hA.keep (m:=[]) (Y:=[]) rfl
 intro h6
 replace h6:=dF h6
 refine HO_fieldAddr (r:=2) rfl rfl rfl Try.underlying36 rfl Try.sizeOf3 rfl ?_
 refine HO_load1 (i:=0) (j:=2) rfl rfl rfl Try.isAgg3 rfl (.loc _ _ _) rfl rfl ?_
 refine HO_bin rfl rfl rfl rfl bin_neq ?_
 refine HO_pick_f rfl rfl rfl rfl ?_
 refine HO_move rfl rfl rfl ?_
 refine HO_split (d:=11) rfl ?_ ?_
 ·intro h11
  replace h11:=dT h11
  iterate 8 refine HO_no rfl rfl rfl ?_
  refine HO_pick_t rfl rfl rfl rfl ?_
  refine HO_nil ?_
  refine H_env (ρ':=[(20,_),(1,_)]) ⟨rfl,rfl,trivial⟩ ?_
  refine H_cond rfl (fun _ => ?_) (fun h => nomatch h)
  refine H_seq ?_
  refine H_region (l:=[_]) rfl ?_
  refine HO_assign rfl rfl rfl ?_
  refine HO_nil ?_
  refine H_env (ρ':=[(2,_)]) ⟨rfl,trivial⟩ ?_
  refine H_world (kp [nn] [] rfl) ?_
  refine H_ret1 Try.results54 (.tmp rfl) (fun w hA => ⟨(),congrArg Ending.returned ?_,?_,?_⟩)
  ·(exact congrArg Value.bool (by first | (simp [Cmd.reads, *];done) | (simp_all [Cmd.reads];done)))
  ·trivial
  ·exact hA.keep (m:=[]) (Y:=[]) rfl
 intro h11
 replace h11:=dF h11
 refine HO_fieldAddr (r:=0) rfl rfl rfl Try.underlying36 rfl Try.sizeOf3 rfl ?_
 refine HO_load1 (i:=0) (j:=0) rfl rfl rfl Try.isAgg3 rfl (.loc _ _ _) rfl rfl ?_
 refine HO_bin rfl rfl rfl rfl bin_neq ?_
 refine HO_move rfl rfl rfl ?_
 refine HO_split (d:=15) rfl ?_ ?_
 ·intro h15
  replace h15:=dT h15
  refine HO_fieldAddr (r:=0) rfl rfl rfl Try.underlying36 rfl Try.sizeOf3 rfl ?_
  refine HO_load1 (i:=0) (j:=0) rfl rfl rfl Try.isAgg3 rfl (.loc _ _ _) rfl rfl ?_
  refine HO_bin rfl rfl rfl rfl bin_neq ?_
  refine HO_pick_t rfl rfl rfl rfl ?_
  refine HO_pick_f rfl rfl rfl rfl ?_
  refine HO_nil ?_
  refine H_env (ρ':=[(20,_),(1,_)]) ⟨rfl,rfl,trivial⟩ ?_
  refine H_cond rfl ?_ ?_
  ·intro h20
   replace h20:=dT h20
   refine H_seq ?_
   refine H_region (l:=[_]) rfl ?_
   refine HO_assign rfl rfl rfl ?_
   refine HO_nil ?_
   refine H_env (ρ':=[(2,_)]) ⟨rfl,trivial⟩ ?_
   refine H_world (kp [nn] [] rfl) ?_
   refine H_ret1 Try.results54 (.tmp rfl) (fun w hA => ⟨(),congrArg Ending.returned ?_,?_,?_⟩)
   ·(exact congrArg Value.bool (by first | (simp [Cmd.reads, *];done) | (simp_all [Cmd.reads];done)))
   ·trivial
   ·exact hA.keep (m:=[]) (Y:=[]) rfl
  intro h20
  replace h20:=dF h20
  refine H_skip ?_
  refine H_seq ?_
  refine H_region (l:=[_,_,_,_]) rfl ?_
  refine HO_fieldAddr (r:=1) rfl rfl rfl Try.underlying36 rfl Try.sizeOf3 rfl ?_
  refine HO_store (i:=0) (j:=0) (us:=[_]) (old:=[_]) (ts:=[_,_,_,_,_,_]) (cs:=[_]) (R:=[]) (new:=[_,_,_,_,_,_,_,_]) rfl rfl rfl Try.sizeOf3 rfl (by simp [Value.oneCell']) rfl rfl rfl rfl rfl rfl ?_
  refine HO_fieldAddr (r:=2) rfl rfl rfl Try.underlying36 rfl Try.sizeOf3 rfl ?_
  refine HO_store (i:=0) (j:=0) (us:=[_,_]) (old:=[_]) (ts:=[_,_,_,_,_]) (cs:=[_]) (R:=[]) (new:=[_,_,_,_,_,_,_,_]) rfl rfl rfl Try.sizeOf3 rfl (by simp [Value.oneCell']) rfl rfl rfl rfl rfl rfl ?_
  refine HO_nil ?_
  refine H_env (ρ':=[(1,_)]) ⟨rfl,trivial⟩ ?_
  refine H_seq ?_
  refine H_region (l:=[_,_,_]) rfl ?_
  refine HO_loadA (i:=0) (us:=[]) (cs:=[_,_,_,_,_,_,_,_]) (ts:=[]) rfl rfl rfl Try.isAgg36 Try.sizeOf36 rfl (.loc _ _ _) rfl rfl rfl rfl ?_
  refine HO_call (first:=[]) (capt:=[]) (is:=[]) (R:=[_]) rfl rfl rfl rfl rfl Try.call34 rfl (rgood_spec _ _ _ _ _ _ _ _) ?_
  intro y24 hy24
  clear y24 hy24
  refine HO_assign rfl rfl rfl ?_
  refine HO_nil ?_
  refine H_env (ρ':=[(2,_)]) ⟨rfl,trivial⟩ ?_
  refine H_world (kp [nn] [] rfl) ?_
  refine H_ret1 Try.results54 (.tmp rfl) (fun w hA => ⟨(),congrArg Ending.returned ?_,?_,?_⟩)
  ·(exact congrArg Value.bool (by first | (simp [Cmd.reads, *];done) | (simp_all [Cmd.reads];done)))
  ·trivial
  ·exact hA.keep (m:=[]) (Y:=[]) rfl
 intro h15
 replace h15:=dF h15
 iterate 3 refine HO_no rfl rfl rfl ?_
 iterate 2 refine HO_pick_f rfl rfl rfl rfl ?_
 refine HO_nil ?_
 refine H_env (ρ':=[(20,_),(1,_)]) ⟨rfl,rfl,trivial⟩ ?_
 refine H_cond rfl (fun h => nomatch h) (fun _ => ?_)
 refine H_skip ?_
 refine H_seq ?_
 refine H_region (l:=[_,_,_,_]) rfl ?_
 refine HO_fieldAddr (r:=1) rfl rfl rfl Try.underlying36 rfl Try.sizeOf3 rfl ?_
 refine HO_store (i:=0) (j:=0) (us:=[_]) (old:=[_]) (ts:=[_,_,_,_,_,_]) (cs:=[_]) (R:=[]) (new:=[_,_,_,_,_,_,_,_]) rfl rfl rfl Try.sizeOf3 rfl (by simp [Value.oneCell']) rfl rfl rfl rfl rfl rfl ?_
 refine HO_fieldAddr (r:=2) rfl rfl rfl Try.underlying36 rfl Try.sizeOf3 rfl ?_
 refine HO_store (i:=0) (j:=0) (us:=[_,_]) (old:=[_]) (ts:=[_,_,_,_,_]) (cs:=[_]) (R:=[]) (new:=[_,_,_,_,_,_,_,_]) rfl rfl rfl Try.sizeOf3 rfl (by simp [Value.oneCell']) rfl rfl rfl rfl rfl rfl ?_
 refine HO_nil ?_
 refine H_env (ρ':=[(1,_)]) ⟨rfl,trivial⟩ ?_
 refine H_seq ?_
 refine H_region (l:=[_,_,_]) rfl ?_
 refine HO_loadA (i:=0) (us:=[]) (cs:=[_,_,_,_,_,_,_,_]) (ts:=[]) rfl rfl rfl Try.isAgg36 Try.sizeOf36 rfl (.loc _ _ _) rfl rfl rfl rfl ?_
 refine HO_call (first:=[]) (capt:=[]) (is:=[]) (R:=[_]) rfl rfl rfl rfl rfl Try.call34 rfl (rgood_spec _ _ _ _ _ _ _ _) ?_
 intro y24 hy24
 clear y24 hy24
 refine HO_assign rfl rfl rfl ?_
 refine HO_nil ?_
 refine H_env (ρ':=[(2,_)]) ⟨rfl,trivial⟩ ?_
 refine H_world (kp [nn] [] rfl) ?_
 refine H_ret1 Try.results54 (.tmp rfl) (fun w hA => ⟨(),congrArg Ending.returned ?_,?_,?_⟩)
 ·(exact congrArg Value.bool (by first | (simp [Cmd.reads, *];done) | (simp_all [Cmd.reads];done)))
 ·trivial
 ·exact hA.keep (m:=[]) (Y:=[]) rfl
end Go.Wk
