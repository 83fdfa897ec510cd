/- Contracts of the program's functions, each proved by walking its code. -/
import Derived.Test.YtdaphlemhmgncaaGreatKgent2
import Derived.Test.YtdaphlemhmgncaaGreatEnt
import Derived.Test.YtdaphlemhmgncaaGreatEnt2
import Derived.Test.YtdaphlemhmgncaaGreatKgent3
set_option maxRecDepth 100000
set_option linter.unusedVariables false
set_option linter.unusedSimpArgs false
namespace Go.Wk.Flaw10b
open Go Go.RowKit Go.Proofs Go.Wk

end Go.Wk.Flaw10b
namespace Go.Wk
open Go Go.RowKit Go.Proofs Flaw10b 
theorem rsamesnap_spec (ix te : Int) (vo le : List Int) (a1 : Option Addr) (c1 : Nat) (a2 : Option Addr) (c2 : Nat) (da : List UInt8) (a3 : Option Addr) (c3 : Nat) (ix2 te2 : Int) (vo2 le2 : List Int) (a12 : Option Addr) (c12 : Nat) (a22 : Option Addr) (c22 : Nat) (da2 : List UInt8) (a32 : Option Addr) (c32 : Nat)  : Spec Tryz.prog 35 #[.agg #[.int .i64 (ix),.int .i64 (te),.slice a1 (vo.length) c1,.slice a2 (le.length) c2,.slice a3 (da.length) c3],.agg #[.int .i64 (ix2),.int .i64 (te2),.slice a12 (vo2.length) c12,.slice a22 (le2.length) c22,.slice a32 (da2.length) c32]] [.dat kInt.sl (vo) [.slice a1 (vo.length) c1],.dat kInt.sl (le) [.slice a2 (le.length) c2],.dat kByte.sl (da) [.slice a3 (da.length) c3],.dat kInt.sl (vo2) [.slice a12 (vo2.length) c12],.dat kInt.sl (le2) [.slice a22 (le2.length) c22],.dat kByte.sl (da2) [.slice a32 (da2.length) c32]] (β:=Unit) (fun y => .bool (decide ((⟨ix,te,⟨vo,le⟩,da⟩ : Snap) = ⟨ix2,te2,⟨vo2,le2⟩,da2⟩))) (fun y => True) (fun y => []):=by
 refine Spec.enter (vs:=[_,_]) Tryz.func35 rfl Tryz.ntmps35 rfl (Nat.le_of_ble_eq_true rfl) (fun w0 ok0 => ?_)
 generalize hM0 : blks _ = M0
 have hMn:=@noM _ _ hM0 (by simp [Atom.dat,Atom.elem])
 refine H_len_le (i:=0) rfl ?_
 intro hlen0
 refine H_len_le (i:=1) rfl ?_
 intro hlen1
 refine H_len_le (i:=3) rfl ?_
 intro hlen3
 refine H_len_le (i:=4) rfl ?_
 intro hlen4
 refine H_seq ?_
 refine H_region (l:=[_,_,_]) rfl ?_
 refine HO_box (cs:=[_,_,_,_,_]) rfl rfl rfl rfl ?_
 intro g2
 refine HO_box (cs:=[_,_,_,_,_]) rfl rfl rfl rfl ?_
 intro g3
 refine HO_assign rfl rfl rfl ?_
 refine HO_nil ?_
 refine H_env (ρ':=[(3,_),(2,_)]) ⟨rfl,rfl,trivial⟩ ?_
 refine H_seq ?_
 refine H_region (l:=[_,_,_,_,_,_,_,_,_,_,_,_,_,_,_,_,_,_,_,_,_,_,_,_,_,_,_]) rfl ?_
 refine HO_fieldAddr (r:=0) rfl rfl rfl Tryz.underlying34 rfl Tryz.sizeOf3 rfl ?_
 refine HO_load1 (i:=1) (j:=0) rfl rfl rfl Tryz.isAgg3 rfl (.loc _ _ _) rfl rfl ?_
 refine HO_fieldAddr (r:=0) rfl rfl rfl Tryz.underlying34 rfl Tryz.sizeOf3 rfl ?_
 refine HO_load1 (i:=0) (j:=0) rfl rfl rfl Tryz.isAgg3 rfl (.loc _ _ _) rfl rfl ?_
 refine HO_bin rfl rfl rfl rfl bin_eql ?_
 refine HO_move rfl rfl rfl ?_
 refine HO_split (d:=10) rfl ?_ ?_
 ·intro h10
  replace h10:=dT h10
  refine HO_fieldAddr (r:=1) rfl rfl rfl Tryz.underlying34 rfl Tryz.sizeOf3 rfl ?_
  refine HO_load1 (i:=1) (j:=1) rfl rfl rfl Tryz.isAgg3 rfl (.loc _ _ _) rfl rfl ?_
  refine HO_fieldAddr (r:=1) rfl rfl rfl Tryz.underlying34 rfl Tryz.sizeOf3 rfl ?_
  refine HO_load1 (i:=0) (j:=1) rfl rfl rfl Tryz.isAgg3 rfl (.loc _ _ _) rfl rfl ?_
  refine HO_bin rfl rfl rfl rfl bin_eql ?_
  refine HO_pick_t rfl rfl rfl rfl ?_
  refine HO_move rfl rfl rfl ?_
  refine HO_split (d:=17) rfl ?_ ?_
  ·intro h17
   replace h17:=dT h17
   refine HO_fieldAddr (r:=2) rfl rfl rfl Tryz.underlying34 rfl Tryz.sizeOf31 rfl ?_
   refine HO_loadA (i:=1) (us:=[_,_]) (cs:=[_,_]) (ts:=[_]) rfl rfl rfl Tryz.isAgg31 Tryz.sizeOf31 rfl (.loc _ _ _) rfl rfl rfl rfl ?_
   refine HO_fieldAddr (r:=2) rfl rfl rfl Tryz.underlying34 rfl Tryz.sizeOf31 rfl ?_
   refine HO_loadA (i:=0) (us:=[_,_]) (cs:=[_,_]) (ts:=[_]) rfl rfl rfl Tryz.isAgg31 Tryz.sizeOf31 rfl (.loc _ _ _) rfl rfl rfl rfl ?_
   refine HO_dup (i:=2) rfl rfl ?_
   refine HO_dup (i:=4) rfl rfl ?_
   refine HO_dup (i:=7) rfl rfl ?_
   refine HO_dup (i:=9) rfl rfl ?_
   refine HO_call (first:=[]) (capt:=[]) (is:=[0,0,0,0]) (R:=[_,_,_,_,_,_,_,_]) rfl rfl rfl rfl rfl Tryz.call64 rfl (rsameconf_spec _ _ _ _ _ _ _ _ _ _ _ _) ?_
   intro y22 hy22
   clear y22 hy22
   refine HO_pick_t rfl rfl rfl rfl ?_
   refine HO_move rfl rfl rfl ?_
   refine HO_split (d:=24) rfl ?_ ?_
   ·intro h24
    replace h24:=dT h24
    refine HO_fieldAddr (r:=4) rfl rfl rfl Tryz.underlying34 rfl Tryz.sizeOf32 rfl ?_
    refine HO_load1 (i:=1) (j:=4) rfl rfl rfl Tryz.isAgg32 rfl (.loc _ _ _) rfl rfl ?_
    refine HO_fieldAddr (r:=4) rfl rfl rfl Tryz.underlying34 rfl Tryz.sizeOf32 rfl ?_
    refine HO_load1 (i:=0) (j:=4) rfl rfl rfl Tryz.isAgg32 rfl (.loc _ _ _) rfl rfl ?_
    refine HO_dup (i:=4) rfl rfl ?_
    refine HO_dup (i:=8) rfl rfl ?_
    refine HO_call (first:=[]) (capt:=[]) (is:=[0,0]) (R:=[_,_,_,_,_,_,_,_]) rfl rfl rfl rfl rfl Tryz.call65 rfl (rsame_spec _ _ _ _ _ _) ?_
    intro y29 hy29
    clear y29 hy29
    refine HO_pick_t rfl rfl rfl rfl ?_
    refine HO_assign rfl rfl rfl ?_
    refine HO_nil ?_
    refine H_env (ρ':=[(4,_)]) ⟨rfl,trivial⟩ ?_
    refine H_world (kp [nn,nn,nn,nn,nn,nn,nn,nn] [] rfl) ?_
    refine H_ret1 Tryz.results35 (.tmp rfl) (fun w hA => ⟨(),congrArg Ending.returned ?_,?_,?_⟩)
    ·(exact congrArg Value.bool (by first | (simp [*];done) | (simp_all;done) | (simp_all;intros;simp_all)))
    ·trivial
    ·exact hA.keep (m:=[]) (Y:=[]) rfl
   intro h24
   replace h24:=dF h24
   iterate 5 refine HO_no rfl rfl rfl ?_
   refine HO_pick_f rfl rfl rfl rfl ?_
   refine HO_assign rfl rfl rfl ?_
   refine HO_nil ?_
   refine H_env (ρ':=[(4,_)]) ⟨rfl,trivial⟩ ?_
   refine H_world (kp [nn,nn,nn,nn,nn,nn,nn,nn] [] rfl) ?_
   refine H_ret1 Tryz.results35 (.tmp rfl) (fun w hA => ⟨(),congrArg Ending.returned ?_,?_,?_⟩)
   ·(exact congrArg Value.bool (by first | (simp [*];done) | (simp_all;done) | (simp_all;intros;simp_all)))
   ·trivial
   ·exact hA.keep (m:=[]) (Y:=[]) rfl
  intro h17
  replace h17:=dF h17
  iterate 5 refine HO_no rfl rfl rfl ?_
  refine HO_pick_f rfl rfl rfl rfl ?_
  refine HO_move rfl rfl rfl ?_
  iterate 5 refine HO_no rfl rfl rfl ?_
  refine HO_pick_f rfl rfl rfl rfl ?_
  refine HO_assign rfl rfl rfl ?_
  refine HO_nil ?_
  refine H_env (ρ':=[(4,_)]) ⟨rfl,trivial⟩ ?_
  refine H_world (kp [nn,nn,nn,nn,nn,nn,nn,nn] [] rfl) ?_
  refine H_ret1 Tryz.results35 (.tmp rfl) (fun w hA => ⟨(),congrArg Ending.returned ?_,?_,?_⟩)
  ·(exact congrArg Value.bool (by first | (simp [*];done) | (simp_all;done) | (simp_all;intros;simp_all)))
  ·trivial
  ·exact hA.keep (m:=[]) (Y:=[]) rfl
 intro h10
 replace h10:=dF h10
 iterate 5 refine HO_no rfl rfl rfl ?_
 refine HO_pick_f rfl rfl rfl rfl ?_
 refine HO_move rfl rfl rfl ?_
 iterate 5 refine HO_no rfl rfl rfl ?_
 refine HO_pick_f rfl rfl rfl rfl ?_
 refine HO_move rfl rfl rfl ?_
 iterate 5 refine HO_no rfl rfl rfl ?_
 refine HO_pick_f rfl rfl rfl rfl ?_
 refine HO_assign rfl rfl rfl ?_
 refine HO_nil ?_
 refine H_env (ρ':=[(4,_)]) ⟨rfl,trivial⟩ ?_
 refine H_world (kp [nn,nn,nn,nn,nn,nn,nn,nn] [] rfl) ?_
 refine H_ret1 Tryz.results35 (.tmp rfl) (fun w hA => ⟨(),congrArg Ending.returned ?_,?_,?_⟩)
 ·(exact congrArg Value.bool (by first | (simp [*];done) | (simp_all;done) | (simp_all;intros;simp_all)))
 ·trivial
 ·exact hA.keep (m:=[]) (Y:=[]) rfl
end Go.Wk
