/- Contracts of the program's functions, each proved by walking its code. -/
import Derived.Test.YtdaphlemhmgncaaGreatKgent5
import Derived.Test.YtdaphlemhmgncaaGreatEnt3
set_option maxRecDepth 100000
set_option linter.unusedVariables false
set_option linter.unusedSimpArgs false
namespace Go.Wk.Fent6
open Go Go.RowKit Go.Proofs Go.Wk
theorem elt3 : Elt Tryz.prog 3 (.int .i64 (0)) 1 8:=Elt.of (by kernel_rfl) (by rfl) (by decide) (by decide)
theorem elt70 : Elt Tryz.prog 70 (.agg #[.int .i64 (0),.int .i64 (0),.int .i64 (0),.int .i64 (0),.int .i64 (0),.int .i64 (0),.string (⟨#[]⟩),.string (⟨#[]⟩),.string (⟨#[]⟩),.string (⟨#[]⟩),.int .i64 (0),.slice none 0 0,.slice none 0 0]) 13 168:=Elt.of (by kernel_rfl) (by rfl) (by decide) (by decide)
theorem bd34__  : ∀ w,(Instr.build 34 (List.toArray (List.zip [] []))).run Tryz.prog w = .ok (.agg #[.int .i64 (0),.int .i64 (0),.slice none 0 0,.slice none 0 0,.slice none 0 0]) w:=fun _ => by kernel_rfl
theorem bd36__  : ∀ w,(Instr.build 36 (List.toArray (List.zip [] []))).run Tryz.prog w = .ok (.agg #[.int .i64 (0),.int .i64 (0),.int .i64 (0),.int .i64 (0),.int .i64 (0),.int .i64 (0),.int .i64 (0),.int .i64 (0),.bool (false),.int .i64 (0),.slice none 0 0,.int .i64 (0),.int .i64 (0),.slice none 0 0,.slice none 0 0,.slice none 0 0]) w:=fun _ => by kernel_rfl
end Go.Wk.Fent6
namespace Go.Wk
open Go Go.RowKit Go.Proofs Fent6 
theorem rgoodmsg_spec (mk mf mt me mi ml mc mr : Int) (rj : Bool) (hi : Int) (es : List Ent) (a9 : Option Addr) (c9 : Nat) (ix te : Int) (vo le : List Int) (a1 : Option Addr) (c1 : Nat) (a2 : Option Addr) (c2 : Nat) (da : List UInt8) (a3 : Option Addr) (c3 : Nat) (nd : da.length≤BIG) (n1 : vo.length≤BIG) (n2 : le.length≤BIG) (ri : mi≤9223372036854775807) : Spec Tryz.prog 24 #[.agg #[.int .i64 (mk),.int .i64 (mf),.int .i64 (mt),.int .i64 (me),.int .i64 (mi),.int .i64 (ml),.int .i64 (mc),.int .i64 (mr),.bool (rj),.int .i64 (hi),.slice a9 (es.length) c9,.int .i64 (ix),.int .i64 (te),.slice a1 (vo.length) c1,.slice a2 (le.length) c2,.slice a3 (da.length) c3]] [.dat kEnt.sl (es) [.slice a9 (es.length) c9],.dat kInt.sl (vo) [.slice a1 (vo.length) c1],.dat kInt.sl (le) [.slice a2 (le.length) c2],.dat kByte.sl (da) [.slice a3 (da.length) c3]] (β:=Unit) (fun y => .bool (Ent.goodMsg ⟨mk,mf,mt,me,mi,ml,mc,mr,rj,hi,es,⟨ix,te,⟨vo,le⟩,da⟩⟩)) (fun y => True) (fun y => []):=by
 (try simp only [BIG] at nd n1 n2)
 refine Spec.enter (vs:=[_]) Tryz.func24 rfl Tryz.ntmps24 rfl (Nat.le_of_ble_eq_true rfl) (fun w0 ok0 => ?_)
 generalize hM0 : blks _ = M0
 have hMn:=@noM _ _ hM0 (by simp [Atom.dat,Atom.elem])
 refine H_len_le (i:=0) rfl ?_
 intro hlen0
 refine H_len_le (i:=1) rfl ?_
 intro hlen1
 refine H_len_le (i:=2) rfl ?_
 intro hlen2
 refine H_seq ?_
 refine H_region (l:=[_,_]) rfl ?_
 refine HO_box (cs:=[_,_,_,_,_,_,_,_,_,_,_,_,_,_,_,_]) rfl rfl rfl rfl ?_
 intro g1
 refine HO_assign rfl rfl rfl ?_
 refine HO_nil ?_
 refine H_env (ρ':=[(1,_)]) ⟨rfl,trivial⟩ ?_
 refine H_seq ?_
 refine H_seq ?_
 refine H_region (l:=[_,_,_,_,_,_,_,_,_,_,_,_,_,_,_,_,_,_,_,_,_,_,_,_,_,_,_,_,_,_,_,_,_,_,_,_,_,_,_,_,_,_,_,_,_,_,_,_,_,_,_,_,_,_,_,_,_,_]) rfl ?_
 refine HO_fieldAddr (r:=0) rfl rfl rfl Tryz.underlying36 rfl Tryz.sizeOf3 rfl ?_
 refine HO_load1 (i:=0) (j:=0) rfl rfl rfl Tryz.isAgg3 rfl (.loc _ _ _) rfl rfl ?_
 refine HO_bin rfl rfl rfl rfl bin_lss ?_
 refine HO_move rfl rfl rfl ?_
 refine HO_split (d:=8) rfl ?_ ?_
 ·intro h8
  replace h8:=dT h8
  iterate 3 refine HO_no rfl rfl rfl ?_
  refine HO_pick_t rfl rfl rfl rfl ?_
  refine HO_move rfl rfl rfl ?_
  iterate 3 refine HO_no rfl rfl rfl ?_
  refine HO_pick_t rfl rfl rfl rfl ?_
  refine HO_move rfl rfl rfl ?_
  iterate 3 refine HO_no rfl rfl rfl ?_
  refine HO_pick_t rfl rfl rfl rfl ?_
  refine HO_move rfl rfl rfl ?_
  iterate 3 refine HO_no rfl rfl rfl ?_
  refine HO_pick_t rfl rfl rfl rfl ?_
  refine HO_move rfl rfl rfl ?_
  iterate 3 refine HO_no rfl rfl rfl ?_
  refine HO_pick_t rfl rfl rfl rfl ?_
  refine HO_move rfl rfl rfl ?_
  iterate 3 refine HO_no rfl rfl rfl ?_
  refine HO_pick_t rfl rfl rfl rfl ?_
  refine HO_move rfl rfl rfl ?_
  iterate 3 refine HO_no rfl rfl rfl ?_
  refine HO_pick_t rfl rfl rfl rfl ?_
  refine HO_move rfl rfl rfl ?_
  iterate 3 refine HO_no rfl rfl rfl ?_
  refine HO_pick_t rfl rfl rfl rfl ?_
  refine HO_move rfl rfl rfl ?_
  iterate 3 refine HO_no rfl rfl rfl ?_
  refine HO_pick_t rfl rfl rfl rfl ?_
  refine HO_move rfl rfl rfl ?_
  iterate 3 refine HO_no rfl rfl rfl ?_
  refine HO_pick_t rfl rfl rfl rfl ?_
  refine HO_move rfl rfl rfl ?_
  iterate 3 refine HO_no rfl rfl rfl ?_
  refine HO_pick_t rfl rfl rfl rfl ?_
  refine HO_nil ?_
  refine H_env (ρ':=[(62,_),(1,_)]) ⟨rfl,rfl,trivial⟩ ?_
  refine H_cond rfl (fun _ => ?_) (fun h => nomatch h)
  refine H_seq ?_
  refine H_region (l:=[_]) rfl ?_
  refine HO_assign rfl rfl rfl ?_
  refine HO_nil ?_
  refine H_env (ρ':=[(2,_)]) ⟨rfl,trivial⟩ ?_
  refine H_world (kp [nn,nn,nn,nn,nn] [] rfl) ?_
  refine H_ret1 Tryz.results24 (.tmp rfl) (fun w hA => ⟨(),congrArg Ending.returned ?_,?_,?_⟩)
  ·(exact congrArg Value.bool (Ent.goodMsg_no (m:=⟨mk,mf,mt,me,mi,ml,mc,mr,rj,hi,es,⟨ix,te,⟨vo,le⟩,da⟩⟩) (by dsimp only;omega)))
  ·trivial
  ·exact hA.keep (m:=[]) (Y:=[]) rfl
 intro h8
 replace h8:=dF h8
 refine HO_fieldAddr (r:=0) rfl rfl rfl Tryz.underlying36 rfl Tryz.sizeOf3 rfl ?_
 refine HO_load1 (i:=0) (j:=0) rfl rfl rfl Tryz.isAgg3 rfl (.loc _ _ _) rfl rfl ?_
 refine HO_bin rfl rfl rfl rfl bin_gtr ?_
 refine HO_pick_f rfl rfl rfl rfl ?_
 refine HO_move rfl rfl rfl ?_
 refine HO_split (d:=13) rfl ?_ ?_
 ·intro h13
  replace h13:=dT h13
  iterate 3 refine HO_no rfl rfl rfl ?_
  refine HO_pick_t rfl rfl rfl rfl ?_
  refine HO_move rfl rfl rfl ?_
  iterate 3 refine HO_no rfl rfl rfl ?_
  refine HO_pick_t rfl rfl rfl rfl ?_
  refine HO_move rfl rfl rfl ?_
  iterate 3 refine HO_no rfl rfl rfl ?_
  refine HO_pick_t rfl rfl rfl rfl ?_
  refine HO_move rfl rfl rfl ?_
  iterate 3 refine HO_no rfl rfl rfl ?_
  refine HO_pick_t rfl rfl rfl rfl ?_
  refine HO_move rfl rfl rfl ?_
  iterate 3 refine HO_no rfl rfl rfl ?_
  refine HO_pick_t rfl rfl rfl rfl ?_
  refine HO_move rfl rfl rfl ?_
  iterate 3 refine HO_no rfl rfl rfl ?_
  refine HO_pick_t rfl rfl rfl rfl ?_
  refine HO_move rfl rfl rfl ?_
  iterate 3 refine HO_no rfl rfl rfl ?_
  refine HO_pick_t rfl rfl rfl rfl ?_
  refine HO_move rfl rfl rfl ?_
  iterate 3 refine HO_no rfl rfl rfl ?_
  refine HO_pick_t rfl rfl rfl rfl ?_
  refine HO_move rfl rfl rfl ?_
  iterate 3 refine HO_no rfl rfl rfl ?_
  refine HO_pick_t rfl rfl rfl rfl ?_
  refine HO_move rfl rfl rfl ?_
  iterate 3 refine HO_no rfl rfl rfl ?_
  refine HO_pick_t rfl rfl rfl rfl ?_
  refine HO_nil ?_
  refine H_env (ρ':=[(62,_),(1,_)]) ⟨rfl,rfl,trivial⟩ ?_
  refine H_cond rfl (fun _ => ?_) (fun h => nomatch h)
  refine H_seq ?_
  refine H_region (l:=[_]) rfl ?_
  refine HO_assign rfl rfl rfl ?_
  refine HO_nil ?_
  refine H_env (ρ':=[(2,_)]) ⟨rfl,trivial⟩ ?_
  refine H_world (kp [nn,nn,nn,nn,nn] [] rfl) ?_
  refine H_ret1 Tryz.results24 (.tmp rfl) (fun w hA => ⟨(),congrArg Ending.returned ?_,?_,?_⟩)
  ·(exact congrArg Value.bool (Ent.goodMsg_no (m:=⟨mk,mf,mt,me,mi,ml,mc,mr,rj,hi,es,⟨ix,te,⟨vo,le⟩,da⟩⟩) (by dsimp only;omega)))
  ·trivial
  ·exact hA.keep (m:=[]) (Y:=[]) rfl
 intro h13
 replace h13:=dF h13
 refine HO_fieldAddr (r:=1) rfl rfl rfl Tryz.underlying36 rfl Tryz.sizeOf3 rfl ?_
 refine HO_load1 (i:=0) (j:=1) rfl rfl rfl Tryz.isAgg3 rfl (.loc _ _ _) rfl rfl ?_
 refine HO_bin rfl rfl rfl rfl bin_lss ?_
 refine HO_pick_f rfl rfl rfl rfl ?_
 refine HO_move rfl rfl rfl ?_
 refine HO_split (d:=18) rfl ?_ ?_
 ·intro h18
  replace h18:=dT h18
  iterate 3 refine HO_no rfl rfl rfl ?_
  refine HO_pick_t rfl rfl rfl rfl ?_
  refine HO_move rfl rfl rfl ?_
  iterate 3 refine HO_no rfl rfl rfl ?_
  refine HO_pick_t rfl rfl rfl rfl ?_
  refine HO_move rfl rfl rfl ?_
  iterate 3 refine HO_no rfl rfl rfl ?_
  refine HO_pick_t rfl rfl rfl rfl ?_
  refine HO_move rfl rfl rfl ?_
  iterate 3 refine HO_no rfl rfl rfl ?_
  refine HO_pick_t rfl rfl rfl rfl ?_
  refine HO_move rfl rfl rfl ?_
  iterate 3 refine HO_no rfl rfl rfl ?_
  refine HO_pick_t rfl rfl rfl rfl ?_
  refine HO_move rfl rfl rfl ?_
  iterate 3 refine HO_no rfl rfl rfl ?_
  refine HO_pick_t rfl rfl rfl rfl ?_
  refine HO_move rfl rfl rfl ?_
  iterate 3 refine HO_no rfl rfl rfl ?_
  refine HO_pick_t rfl rfl rfl rfl ?_
  refine HO_move rfl rfl rfl ?_
  iterate 3 refine HO_no rfl rfl rfl ?_
  refine HO_pick_t rfl rfl rfl rfl ?_
  refine HO_move rfl rfl rfl ?_
  iterate 3 refine HO_no rfl rfl rfl ?_
  refine HO_pick_t rfl rfl rfl rfl ?_
  refine HO_nil ?_
  refine H_env (ρ':=[(62,_),(1,_)]) ⟨rfl,rfl,trivial⟩ ?_
  refine H_cond rfl (fun _ => ?_) (fun h => nomatch h)
  refine H_seq ?_
  refine H_region (l:=[_]) rfl ?_
  refine HO_assign rfl rfl rfl ?_
  refine HO_nil ?_
  refine H_env (ρ':=[(2,_)]) ⟨rfl,trivial⟩ ?_
  refine H_world (kp [nn,nn,nn,nn,nn] [] rfl) ?_
  refine H_ret1 Tryz.results24 (.tmp rfl) (fun w hA => ⟨(),congrArg Ending.returned ?_,?_,?_⟩)
  ·(exact congrArg Value.bool (Ent.goodMsg_no (m:=⟨mk,mf,mt,me,mi,ml,mc,mr,rj,hi,es,⟨ix,te,⟨vo,le⟩,da⟩⟩) (by dsimp only;omega)))
  ·trivial
  ·exact hA.keep (m:=[]) (Y:=[]) rfl
 intro h18
 replace h18:=dF h18
 refine HO_fieldAddr (r:=1) rfl rfl rfl Tryz.underlying36 rfl Tryz.sizeOf3 rfl ?_
 refine HO_load1 (i:=0) (j:=1) rfl rfl rfl Tryz.isAgg3 rfl (.loc _ _ _) rfl rfl ?_
 refine HO_bin rfl rfl rfl rfl bin_gtr ?_
 refine HO_pick_f rfl rfl rfl rfl ?_
 refine HO_move rfl rfl rfl ?_
 refine HO_split (d:=23) rfl ?_ ?_
 ·intro h23
  replace h23:=dT h23
  iterate 3 refine HO_no rfl rfl rfl ?_
  refine HO_pick_t rfl rfl rfl rfl ?_
  refine HO_move rfl rfl rfl ?_
  iterate 3 refine HO_no rfl rfl rfl ?_
  refine HO_pick_t rfl rfl rfl rfl ?_
  refine HO_move rfl rfl rfl ?_
  iterate 3 refine HO_no rfl rfl rfl ?_
  refine HO_pick_t rfl rfl rfl rfl ?_
  refine HO_move rfl rfl rfl ?_
  iterate 3 refine HO_no rfl rfl rfl ?_
  refine HO_pick_t rfl rfl rfl rfl ?_
  refine HO_move rfl rfl rfl ?_
  iterate 3 refine HO_no rfl rfl rfl ?_
  refine HO_pick_t rfl rfl rfl rfl ?_
  refine HO_move rfl rfl rfl ?_
  iterate 3 refine HO_no rfl rfl rfl ?_
  refine HO_pick_t rfl rfl rfl rfl ?_
  refine HO_move rfl rfl rfl ?_
  iterate 3 refine HO_no rfl rfl rfl ?_
  refine HO_pick_t rfl rfl rfl rfl ?_
  refine HO_move rfl rfl rfl ?_
  iterate 3 refine HO_no rfl rfl rfl ?_
  refine HO_pick_t rfl rfl rfl rfl ?_
  refine HO_nil ?_
  refine H_env (ρ':=[(62,_),(1,_)]) ⟨rfl,rfl,trivial⟩ ?_
  refine H_cond rfl (fun _ => ?_) (fun h => nomatch h)
  refine H_seq ?_
  refine H_region (l:=[_]) rfl ?_
  refine HO_assign rfl rfl rfl ?_
  refine HO_nil ?_
  refine H_env (ρ':=[(2,_)]) ⟨rfl,trivial⟩ ?_
  refine H_world (kp [nn,nn,nn,nn,nn] [] rfl) ?_
  refine H_ret1 Tryz.results24 (.tmp rfl) (fun w hA => ⟨(),congrArg Ending.returned ?_,?_,?_⟩)
  ·(exact congrArg Value.bool (Ent.goodMsg_no (m:=⟨mk,mf,mt,me,mi,ml,mc,mr,rj,hi,es,⟨ix,te,⟨vo,le⟩,da⟩⟩) (by dsimp only;omega)))
  ·trivial
  ·exact hA.keep (m:=[]) (Y:=[]) rfl
 intro h23
 replace h23:=dF h23
 refine HO_fieldAddr (r:=2) rfl rfl rfl Tryz.underlying36 rfl Tryz.sizeOf3 rfl ?_
 refine HO_load1 (i:=0) (j:=2) rfl rfl rfl Tryz.isAgg3 rfl (.loc _ _ _) rfl rfl ?_
 refine HO_bin rfl rfl rfl rfl bin_lss ?_
 refine HO_pick_f rfl rfl rfl rfl ?_
 refine HO_move rfl rfl rfl ?_
 refine HO_split (d:=28) rfl ?_ ?_
 ·intro h28
  replace h28:=dT h28
  iterate 3 refine HO_no rfl rfl rfl ?_
  refine HO_pick_t rfl rfl rfl rfl ?_
  refine HO_move rfl rfl rfl ?_
  iterate 3 refine HO_no rfl rfl rfl ?_
  refine HO_pick_t rfl rfl rfl rfl ?_
  refine HO_move rfl rfl rfl ?_
  iterate 3 refine HO_no rfl rfl rfl ?_
  refine HO_pick_t rfl rfl rfl rfl ?_
  refine HO_move rfl rfl rfl ?_
  iterate 3 refine HO_no rfl rfl rfl ?_
  refine HO_pick_t rfl rfl rfl rfl ?_
  refine HO_move rfl rfl rfl ?_
  iterate 3 refine HO_no rfl rfl rfl ?_
  refine HO_pick_t rfl rfl rfl rfl ?_
  refine HO_move rfl rfl rfl ?_
  iterate 3 refine HO_no rfl rfl rfl ?_
  refine HO_pick_t rfl rfl rfl rfl ?_
  refine HO_move rfl rfl rfl ?_
  iterate 3 refine HO_no rfl rfl rfl ?_
  refine HO_pick_t rfl rfl rfl rfl ?_
  refine HO_nil ?_
  refine H_env (ρ':=[(62,_),(1,_)]) ⟨rfl,rfl,trivial⟩ ?_
  refine H_cond rfl (fun _ => ?_) (fun h => nomatch h)
  refine H_seq ?_
  refine H_region (l:=[_]) rfl ?_
  refine HO_assign rfl rfl rfl ?_
  refine HO_nil ?_
  refine H_env (ρ':=[(2,_)]) ⟨rfl,trivial⟩ ?_
  refine H_world (kp [nn,nn,nn,nn,nn] [] rfl) ?_
  refine H_ret1 Tryz.results24 (.tmp rfl) (fun w hA => ⟨(),congrArg Ending.returned ?_,?_,?_⟩)
  ·(exact congrArg Value.bool (Ent.goodMsg_no (m:=⟨mk,mf,mt,me,mi,ml,mc,mr,rj,hi,es,⟨ix,te,⟨vo,le⟩,da⟩⟩) (by dsimp only;omega)))
  ·trivial
  ·exact hA.keep (m:=[]) (Y:=[]) rfl
 intro h28
 replace h28:=dF h28
 refine HO_fieldAddr (r:=2) rfl rfl rfl Tryz.underlying36 rfl Tryz.sizeOf3 rfl ?_
 refine HO_load1 (i:=0) (j:=2) rfl rfl rfl Tryz.isAgg3 rfl (.loc _ _ _) rfl rfl ?_
 refine HO_bin rfl rfl rfl rfl bin_gtr ?_
 refine HO_pick_f rfl rfl rfl rfl ?_
 refine HO_move rfl rfl rfl ?_
 refine HO_split (d:=33) rfl ?_ ?_
 ·intro h33
  replace h33:=dT h33
  iterate 3 refine HO_no rfl rfl rfl ?_
  refine HO_pick_t rfl rfl rfl rfl ?_
  refine HO_move rfl rfl rfl ?_
  iterate 3 refine HO_no rfl rfl rfl ?_
  refine HO_pick_t rfl rfl rfl rfl ?_
  refine HO_move rfl rfl rfl ?_
  iterate 3 refine HO_no rfl rfl rfl ?_
  refine HO_pick_t rfl rfl rfl rfl ?_
  refine HO_move rfl rfl rfl ?_
  iterate 3 refine HO_no rfl rfl rfl ?_
  refine HO_pick_t rfl rfl rfl rfl ?_
  refine HO_move rfl rfl rfl ?_
  iterate 3 refine HO_no rfl rfl rfl ?_
  refine HO_pick_t rfl rfl rfl rfl ?_
  refine HO_move rfl rfl rfl ?_
  iterate 3 refine HO_no rfl rfl rfl ?_
  refine HO_pick_t rfl rfl rfl rfl ?_
  refine HO_nil ?_
  refine H_env (ρ':=[(62,_),(1,_)]) ⟨rfl,rfl,trivial⟩ ?_
  refine H_cond rfl (fun _ => ?_) (fun h => nomatch h)
  refine H_seq ?_
  refine H_region (l:=[_]) rfl ?_
  refine HO_assign rfl rfl rfl ?_
  refine HO_nil ?_
  refine H_env (ρ':=[(2,_)]) ⟨rfl,trivial⟩ ?_
  refine H_world (kp [nn,nn,nn,nn,nn] [] rfl) ?_
  refine H_ret1 Tryz.results24 (.tmp rfl) (fun w hA => ⟨(),congrArg Ending.returned ?_,?_,?_⟩)
  ·(exact congrArg Value.bool (Ent.goodMsg_no (m:=⟨mk,mf,mt,me,mi,ml,mc,mr,rj,hi,es,⟨ix,te,⟨vo,le⟩,da⟩⟩) (by dsimp only;omega)))
  ·trivial
  ·exact hA.keep (m:=[]) (Y:=[]) rfl
 intro h33
 replace h33:=dF h33
 refine HO_fieldAddr (r:=3) rfl rfl rfl Tryz.underlying36 rfl Tryz.sizeOf3 rfl ?_
 refine HO_load1 (i:=0) (j:=3) rfl rfl rfl Tryz.isAgg3 rfl (.loc _ _ _) rfl rfl ?_
 refine HO_bin rfl rfl rfl rfl bin_lss ?_
 refine HO_pick_f rfl rfl rfl rfl ?_
 refine HO_move rfl rfl rfl ?_
 refine HO_split (d:=38) rfl ?_ ?_
 ·intro h38
  replace h38:=dT h38
  iterate 3 refine HO_no rfl rfl rfl ?_
  refine HO_pick_t rfl rfl rfl rfl ?_
  refine HO_move rfl rfl rfl ?_
  iterate 3 refine HO_no rfl rfl rfl ?_
  refine HO_pick_t rfl rfl rfl rfl ?_
  refine HO_move rfl rfl rfl ?_
  iterate 3 refine HO_no rfl rfl rfl ?_
  refine HO_pick_t rfl rfl rfl rfl ?_
  refine HO_move rfl rfl rfl ?_
  iterate 3 refine HO_no rfl rfl rfl ?_
  refine HO_pick_t rfl rfl rfl rfl ?_
  refine HO_move rfl rfl rfl ?_
  iterate 3 refine HO_no rfl rfl rfl ?_
  refine HO_pick_t rfl rfl rfl rfl ?_
  refine HO_nil ?_
  refine H_env (ρ':=[(62,_),(1,_)]) ⟨rfl,rfl,trivial⟩ ?_
  refine H_cond rfl (fun _ => ?_) (fun h => nomatch h)
  refine H_seq ?_
  refine H_region (l:=[_]) rfl ?_
  refine HO_assign rfl rfl rfl ?_
  refine HO_nil ?_
  refine H_env (ρ':=[(2,_)]) ⟨rfl,trivial⟩ ?_
  refine H_world (kp [nn,nn,nn,nn,nn] [] rfl) ?_
  refine H_ret1 Tryz.results24 (.tmp rfl) (fun w hA => ⟨(),congrArg Ending.returned ?_,?_,?_⟩)
  ·(exact congrArg Value.bool (Ent.goodMsg_no (m:=⟨mk,mf,mt,me,mi,ml,mc,mr,rj,hi,es,⟨ix,te,⟨vo,le⟩,da⟩⟩) (by dsimp only;omega)))
  ·trivial
  ·exact hA.keep (m:=[]) (Y:=[]) rfl
 intro h38
 replace h38:=dF h38
 refine HO_fieldAddr (r:=4) rfl rfl rfl Tryz.underlying36 rfl Tryz.sizeOf3 rfl ?_
 refine HO_load1 (i:=0) (j:=4) rfl rfl rfl Tryz.isAgg3 rfl (.loc _ _ _) rfl rfl ?_
 refine HO_bin rfl rfl rfl rfl bin_lss ?_
 refine HO_pick_f rfl rfl rfl rfl ?_
 refine HO_move rfl rfl rfl ?_
 refine HO_split (d:=43) rfl ?_ ?_
 ·intro h43
  replace h43:=dT h43
  iterate 3 refine HO_no rfl rfl rfl ?_
  refine HO_pick_t rfl rfl rfl rfl ?_
  refine HO_move rfl rfl rfl ?_
  iterate 3 refine HO_no rfl rfl rfl ?_
  refine HO_pick_t rfl rfl rfl rfl ?_
  refine HO_move rfl rfl rfl ?_
  iterate 3 refine HO_no rfl rfl rfl ?_
  refine HO_pick_t rfl rfl rfl rfl ?_
  refine HO_move rfl rfl rfl ?_
  iterate 3 refine HO_no rfl rfl rfl ?_
  refine HO_pick_t rfl rfl rfl rfl ?_
  refine HO_nil ?_
  refine H_env (ρ':=[(62,_),(1,_)]) ⟨rfl,rfl,trivial⟩ ?_
  refine H_cond rfl (fun _ => ?_) (fun h => nomatch h)
  refine H_seq ?_
  refine H_region (l:=[_]) rfl ?_
  refine HO_assign rfl rfl rfl ?_
  refine HO_nil ?_
  refine H_env (ρ':=[(2,_)]) ⟨rfl,trivial⟩ ?_
  refine H_world (kp [nn,nn,nn,nn,nn] [] rfl) ?_
  refine H_ret1 Tryz.results24 (.tmp rfl) (fun w hA => ⟨(),congrArg Ending.returned ?_,?_,?_⟩)
  ·(exact congrArg Value.bool (Ent.goodMsg_no (m:=⟨mk,mf,mt,me,mi,ml,mc,mr,rj,hi,es,⟨ix,te,⟨vo,le⟩,da⟩⟩) (by dsimp only;omega)))
  ·trivial
  ·exact hA.keep (m:=[]) (Y:=[]) rfl
 intro h43
 replace h43:=dF h43
 refine HO_fieldAddr (r:=5) rfl rfl rfl Tryz.underlying36 rfl Tryz.sizeOf3 rfl ?_
 refine HO_load1 (i:=0) (j:=5) rfl rfl rfl Tryz.isAgg3 rfl (.loc _ _ _) rfl rfl ?_
 refine HO_bin rfl rfl rfl rfl bin_lss ?_
 refine HO_pick_f rfl rfl rfl rfl ?_
 refine HO_move rfl rfl rfl ?_
 refine HO_split (d:=48) rfl ?_ ?_
 ·intro h48
  replace h48:=dT h48
  iterate 3 refine HO_no rfl rfl rfl ?_
  refine HO_pick_t rfl rfl rfl rfl ?_
  refine HO_move rfl rfl rfl ?_
  iterate 3 refine HO_no rfl rfl rfl ?_
  refine HO_pick_t rfl rfl rfl rfl ?_
  refine HO_move rfl rfl rfl ?_
  iterate 3 refine HO_no rfl rfl rfl ?_
  refine HO_pick_t rfl rfl rfl rfl ?_
  refine HO_nil ?_
  refine H_env (ρ':=[(62,_),(1,_)]) ⟨rfl,rfl,trivial⟩ ?_
  refine H_cond rfl (fun _ => ?_) (fun h => nomatch h)
  refine H_seq ?_
  refine H_region (l:=[_]) rfl ?_
  refine HO_assign rfl rfl rfl ?_
  refine HO_nil ?_
  refine H_env (ρ':=[(2,_)]) ⟨rfl,trivial⟩ ?_
  refine H_world (kp [nn,nn,nn,nn,nn] [] rfl) ?_
  refine H_ret1 Tryz.results24 (.tmp rfl) (fun w hA => ⟨(),congrArg Ending.returned ?_,?_,?_⟩)
  ·(exact congrArg Value.bool (Ent.goodMsg_no (m:=⟨mk,mf,mt,me,mi,ml,mc,mr,rj,hi,es,⟨ix,te,⟨vo,le⟩,da⟩⟩) (by dsimp only;omega)))
  ·trivial
  ·exact hA.keep (m:=[]) (Y:=[]) rfl
 intro h48
 replace h48:=dF h48
 refine HO_fieldAddr (r:=6) rfl rfl rfl Tryz.underlying36 rfl Tryz.sizeOf3 rfl ?_
 refine HO_load1 (i:=0) (j:=6) rfl rfl rfl Tryz.isAgg3 rfl (.loc _ _ _) rfl rfl ?_
 refine HO_bin rfl rfl rfl rfl bin_lss ?_
 refine HO_pick_f rfl rfl rfl rfl ?_
 refine HO_move rfl rfl rfl ?_
 refine HO_split (d:=53) rfl ?_ ?_
 ·intro h53
  replace h53:=dT h53
  iterate 3 refine HO_no rfl rfl rfl ?_
  refine HO_pick_t rfl rfl rfl rfl ?_
  refine HO_move rfl rfl rfl ?_
  iterate 3 refine HO_no rfl rfl rfl ?_
  refine HO_pick_t rfl rfl rfl rfl ?_
  refine HO_nil ?_
  refine H_env (ρ':=[(62,_),(1,_)]) ⟨rfl,rfl,trivial⟩ ?_
  refine H_cond rfl (fun _ => ?_) (fun h => nomatch h)
  refine H_seq ?_
  refine H_region (l:=[_]) rfl ?_
  refine HO_assign rfl rfl rfl ?_
  refine HO_nil ?_
  refine H_env (ρ':=[(2,_)]) ⟨rfl,trivial⟩ ?_
  refine H_world (kp [nn,nn,nn,nn,nn] [] rfl) ?_
  refine H_ret1 Tryz.results24 (.tmp rfl) (fun w hA => ⟨(),congrArg Ending.returned ?_,?_,?_⟩)
  ·(exact congrArg Value.bool (Ent.goodMsg_no (m:=⟨mk,mf,mt,me,mi,ml,mc,mr,rj,hi,es,⟨ix,te,⟨vo,le⟩,da⟩⟩) (by dsimp only;omega)))
  ·trivial
  ·exact hA.keep (m:=[]) (Y:=[]) rfl
 intro h53
 replace h53:=dF h53
 refine HO_fieldAddr (r:=7) rfl rfl rfl Tryz.underlying36 rfl Tryz.sizeOf3 rfl ?_
 refine HO_load1 (i:=0) (j:=7) rfl rfl rfl Tryz.isAgg3 rfl (.loc _ _ _) rfl rfl ?_
 refine HO_bin rfl rfl rfl rfl bin_lss ?_
 refine HO_pick_f rfl rfl rfl rfl ?_
 refine HO_move rfl rfl rfl ?_
 refine HO_split (d:=58) rfl ?_ ?_
 ·intro h58
  replace h58:=dT h58
  iterate 3 refine HO_no rfl rfl rfl ?_
  refine HO_pick_t rfl rfl rfl rfl ?_
  refine HO_nil ?_
  refine H_env (ρ':=[(62,_),(1,_)]) ⟨rfl,rfl,trivial⟩ ?_
  refine H_cond rfl (fun _ => ?_) (fun h => nomatch h)
  refine H_seq ?_
  refine H_region (l:=[_]) rfl ?_
  refine HO_assign rfl rfl rfl ?_
  refine HO_nil ?_
  refine H_env (ρ':=[(2,_)]) ⟨rfl,trivial⟩ ?_
  refine H_world (kp [nn,nn,nn,nn,nn] [] rfl) ?_
  refine H_ret1 Tryz.results24 (.tmp rfl) (fun w hA => ⟨(),congrArg Ending.returned ?_,?_,?_⟩)
  ·(exact congrArg Value.bool (Ent.goodMsg_no (m:=⟨mk,mf,mt,me,mi,ml,mc,mr,rj,hi,es,⟨ix,te,⟨vo,le⟩,da⟩⟩) (by dsimp only;omega)))
  ·trivial
  ·exact hA.keep (m:=[]) (Y:=[]) rfl
 intro h58
 replace h58:=dF h58
 refine HO_fieldAddr (r:=9) rfl rfl rfl Tryz.underlying36 rfl Tryz.sizeOf3 rfl ?_
 refine HO_load1 (i:=0) (j:=9) rfl rfl rfl Tryz.isAgg3 rfl (.loc _ _ _) rfl rfl ?_
 refine HO_bin rfl rfl rfl rfl bin_lss ?_
 refine HO_pick_f rfl rfl rfl rfl ?_
 refine HO_nil ?_
 refine H_env (ρ':=[(62,_),(1,_)]) ⟨rfl,rfl,trivial⟩ ?_
 refine H_cond rfl ?_ ?_
 ·intro h62
  replace h62:=dT h62
  refine H_seq ?_
  refine H_region (l:=[_]) rfl ?_
  refine HO_assign rfl rfl rfl ?_
  refine HO_nil ?_
  refine H_env (ρ':=[(2,_)]) ⟨rfl,trivial⟩ ?_
  refine H_world (kp [nn,nn,nn,nn,nn] [] rfl) ?_
  refine H_ret1 Tryz.results24 (.tmp rfl) (fun w hA => ⟨(),congrArg Ending.returned ?_,?_,?_⟩)
  ·(exact congrArg Value.bool (Ent.goodMsg_no (m:=⟨mk,mf,mt,me,mi,ml,mc,mr,rj,hi,es,⟨ix,te,⟨vo,le⟩,da⟩⟩) (by dsimp only;omega)))
  ·trivial
  ·exact hA.keep (m:=[]) (Y:=[]) rfl
 intro h62
 replace h62:=dF h62
 refine H_skip ?_
 refine H_seq ?_
 refine H_seq ?_
 refine H_region (l:=[_,_,_,_,_,_,_,_,_,_,_,_,_,_,_]) rfl ?_
 refine HO_fieldAddr (r:=10) rfl rfl rfl Tryz.underlying36 rfl Tryz.sizeOf28 rfl ?_
 refine HO_load1 (i:=0) (j:=10) rfl rfl rfl Tryz.isAgg28 rfl (.loc _ _ _) rfl rfl ?_
 refine HO_bi rfl rfl rfl (bi_len_sl Tryz.underlying28) ?_
 refine HO_bin rfl rfl rfl rfl bin_gtr ?_
 refine HO_move rfl rfl rfl ?_
 refine HO_split (d:=67) rfl ?_ ?_
 ·intro h67
  replace h67:=dT h67
  iterate 9 refine HO_no rfl rfl rfl ?_
  refine HO_pick_t rfl rfl rfl rfl ?_
  refine HO_nil ?_
  refine H_env (ρ':=[(77,_),(1,_)]) ⟨rfl,rfl,trivial⟩ ?_
  refine H_cond rfl (fun _ => ?_) (fun h => nomatch h)
  refine H_seq ?_
  refine H_region (l:=[_]) rfl ?_
  refine HO_assign rfl rfl rfl ?_
  refine HO_nil ?_
  refine H_env (ρ':=[(2,_)]) ⟨rfl,trivial⟩ ?_
  refine H_world (kp [nn,nn,nn,nn,nn] [] rfl) ?_
  refine H_ret1 Tryz.results24 (.tmp rfl) (fun w hA => ⟨(),congrArg Ending.returned ?_,?_,?_⟩)
  ·(exact congrArg Value.bool (Ent.goodMsg_no (m:=⟨mk,mf,mt,me,mi,ml,mc,mr,rj,hi,es,⟨ix,te,⟨vo,le⟩,da⟩⟩) (by dsimp only;omega)))
  ·trivial
  ·exact hA.keep (m:=[]) (Y:=[]) rfl
 intro h67
 replace h67:=dF h67
 refine HO_fieldAddr (r:=10) rfl rfl rfl Tryz.underlying36 rfl Tryz.sizeOf28 rfl ?_
 refine HO_load1 (i:=0) (j:=10) rfl rfl rfl Tryz.isAgg28 rfl (.loc _ _ _) rfl rfl ?_
 refine HO_bi rfl rfl rfl (bi_len_sl Tryz.underlying28) ?_
 refine HO_bin rfl rfl rfl rfl bin_gtr ?_
 refine HO_move rfl rfl rfl ?_
 refine HO_split (d:=72) rfl ?_ ?_
 ·intro h72
  replace h72:=dT h72
  refine HO_fieldAddr (r:=0) rfl rfl rfl Tryz.underlying36 rfl Tryz.sizeOf3 rfl ?_
  refine HO_load1 (i:=0) (j:=0) rfl rfl rfl Tryz.isAgg3 rfl (.loc _ _ _) rfl rfl ?_
  refine HO_bin rfl rfl rfl rfl bin_neq ?_
  refine HO_pick_t rfl rfl rfl rfl ?_
  refine HO_pick_f rfl rfl rfl rfl ?_
  refine HO_nil ?_
  refine H_env (ρ':=[(77,_),(1,_)]) ⟨rfl,rfl,trivial⟩ ?_
  refine H_cond rfl ?_ ?_
  ·intro h77
   replace h77:=dT h77
   refine H_seq ?_
   refine H_region (l:=[_]) rfl ?_
   refine HO_assign rfl rfl rfl ?_
   refine HO_nil ?_
   refine H_env (ρ':=[(2,_)]) ⟨rfl,trivial⟩ ?_
   refine H_world (kp [nn,nn,nn,nn,nn] [] rfl) ?_
   refine H_ret1 Tryz.results24 (.tmp rfl) (fun w hA => ⟨(),congrArg Ending.returned ?_,?_,?_⟩)
   ·(exact congrArg Value.bool (Ent.goodMsg_no (m:=⟨mk,mf,mt,me,mi,ml,mc,mr,rj,hi,es,⟨ix,te,⟨vo,le⟩,da⟩⟩) (by dsimp only;omega)))
   ·trivial
   ·exact hA.keep (m:=[]) (Y:=[]) rfl
  intro h77
  replace h77:=dF h77
  refine H_skip ?_
  refine H_seq ?_
  refine H_seq ?_
  have hD:=Ent.goodMsg_at (m:=⟨mk,mf,mt,me,mi,ml,mc,mr,rj,hi,es,⟨ix,te,⟨vo,le⟩,da⟩⟩) (by dsimp only;omega)
  dsimp only at hD
  refine H_region (l:=[_,_,_,_]) rfl ?_
  refine HO_fieldAddr (r:=10) rfl rfl rfl Tryz.underlying36 rfl Tryz.sizeOf28 rfl ?_
  refine HO_load1 (i:=0) (j:=10) rfl rfl rfl Tryz.isAgg28 rfl (.loc _ _ _) rfl rfl ?_
  refine HO_bi rfl rfl rfl (bi_len_sl Tryz.underlying28) ?_
  refine HO_move rfl rfl rfl ?_
  refine HO_nil ?_
  refine H_env (ρ':=[(81,_),(80,_),(79,_),(1,_)]) ⟨rfl,rfl,rfl,rfl,trivial⟩ ?_
  refine H_block ?_
  refine H_loop (σ:=Nat) (fun s => s≤es.length∧Ent.okEnts mi me 0 es = Ent.okEnts mi me s (es.drop s)) (fun s => [(1,.pointer (some ⟨g1,0,none⟩)),(79,.slice a9 (es.length) c9),(80,.int .i64 ((es.length : Int))),(81,.int .i64 ((s : Int)))]) (fun s => Asn w0 ok0 M0 [.loc g1 [.int .i64 (mk),.int .i64 (mf),.int .i64 (mt),.int .i64 (me),.int .i64 (mi),.int .i64 (ml),.int .i64 (mc),.int .i64 (mr),.bool (rj),.int .i64 (hi),.slice a9 (es.length) c9,.int .i64 (ix),.int .i64 (te),.slice a1 (vo.length) c1,.slice a2 (le.length) c2,.slice a3 (da.length) c3] 36,.dat kEnt.sl (es) [.slice a9 (es.length) c9],.dat kInt.sl (vo) [.slice a1 (vo.length) c1],.dat kInt.sl (le) [.slice a2 (le.length) c2],.dat kByte.sl (da) [.slice a3 (da.length) c3]]) (fun s => es.length - s) 0 ?_ ?_ ?_ ?_
  ·exact ⟨Nat.zero_le _,rfl⟩
  ·exact ⟨rfl,rfl,rfl,rfl,trivial⟩
  ·intro w hA
   exact hA.only (is:=[0,1,2,3,4]) (Z:=[]) rfl
  ·intro i hI
   (try dsimp only at hI ⊢)
   refine H_seq ?_
   refine H_region (l:=[_]) rfl ?_
   refine HO_bin rfl rfl rfl rfl bin_lss ?_
   refine HO_nil ?_
   refine H_seq ?_
   refine H_cond rfl ?_ ?_
   ·intro h82
    replace h82:=dT h82
    refine H_skip ?_
    refine H_seq ?_
    refine H_block ?_
    refine H_seq ?_
    refine H_region (l:=[_,_,_,_,_,_]) rfl ?_
    refine HO_move rfl rfl rfl ?_
    refine HO_indexAddr open_Ent (i:=1) rfl rfl rfl rfl rfl Tryz.underlying28 Tryz.sizeOf70 rfl ?_ ?_
    ·omega
    intro b84 o84 z84 y84 hz84 hI84
    (try simp only [BIG] at hI84)
    refine HO_loadA (i:=0) (us:=[]) (cs:=[_,_,_,_,_,_,_,_,_,_,_,_,_]) (ts:=[]) rfl rfl rfl Tryz.isAgg70 Tryz.sizeOf70 rfl (.elem _ _ _) rfl rfl rfl rfl ?_
    refine HO_alloc (cs:=[_,_,_,_,_,_,_,_,_,_,_,_,_]) rfl rfl Tryz.zeroValue70 rfl ?_
    intro g4
    refine HO_assign rfl rfl rfl ?_
    refine HO_store (i:=0) (j:=0) (us:=[]) (old:=[_,_,_,_,_,_,_,_,_,_,_,_,_]) (ts:=[]) (cs:=[_,_,_,_,_,_,_,_,_,_,_,_,_]) (R:=[_,_,_,_,_,_,_,_]) (new:=[_,_,_,_,_,_,_,_,_,_,_,_,_]) rfl rfl rfl Tryz.sizeOf70 rfl (by simp [Value.oneCell']) rfl rfl rfl rfl rfl rfl ?_
    refine HO_nil ?_
    refine H_env (ρ':=[(3,_),(4,_),(1,_),(79,_),(80,_),(81,_)]) ⟨rfl,rfl,rfl,rfl,rfl,rfl,trivial⟩ ?_
    refine H_world (kp [yy,nn,yy,yy,yy,yy,yy,yy,yy] [_,_,_,_,_,_,_,_] rfl) ?_
    refine H_seq ?_
    refine H_region (l:=[_,_,_,_,_,_,_,_,_,_,_,_,_,_,_,_,_,_,_,_]) rfl ?_
    refine HO_loadA (i:=0) (us:=[]) (cs:=[_,_,_,_,_,_,_,_,_,_,_,_,_]) (ts:=[]) rfl rfl rfl Tryz.isAgg70 Tryz.sizeOf70 rfl (.loc _ _ _) rfl rfl rfl rfl ?_
    refine HO_dup (i:=1) rfl rfl ?_
    refine HO_dup (i:=3) rfl rfl ?_
    refine HO_call (first:=[]) (capt:=[]) (is:=[0,0]) (R:=[_,_,_,_,_,_,_,_]) rfl rfl rfl rfl rfl Tryz.call43 rfl (rentgood_spec _ _ _ _ _ _ _ _ _ _ _ _ _ _ _ _ _ ?_ ?_) ?_
    ·(dsimp only [BIG];omega)
    ·(dsimp only [BIG];omega)
    intro y87 hy87
    clear y87 hy87
    refine HO_set (v':=.bool (Ent.good z84)) 87 rfl (by rfl) ?_
    refine HO_not rfl rfl rfl ?_
    refine HO_move rfl rfl rfl ?_
    refine HO_split (d:=89) rfl ?_ ?_
    ·intro h89
     replace h89:=nT h89
     iterate 8 refine HO_no rfl rfl rfl ?_
     refine HO_pick_t rfl rfl rfl rfl ?_
     refine HO_move rfl rfl rfl ?_
     iterate 5 refine HO_no rfl rfl rfl ?_
     refine HO_pick_t rfl rfl rfl rfl ?_
     refine HO_nil ?_
     refine H_env (ρ':=[(105,_),(1,_),(79,_),(80,_),(81,_)]) ⟨rfl,rfl,rfl,rfl,rfl,trivial⟩ ?_
     refine H_world (kp [nn,nn,nn,yy,yy,yy,yy,yy] [_,_,_,_,_] rfl) ?_
     refine H_cond rfl (fun _ => ?_) (fun h => nomatch h)
     refine H_seq ?_
     refine H_region (l:=[_]) rfl ?_
     refine HO_assign rfl rfl rfl ?_
     refine HO_nil ?_
     refine H_env (ρ':=[(2,_)]) ⟨rfl,trivial⟩ ?_
     refine H_world (kp [nn,nn,nn,nn,nn] [] rfl) ?_
     refine H_ret1 Tryz.results24 (.tmp rfl) (fun w hA => ⟨(),congrArg Ending.returned ?_,?_,?_⟩)
     ·(first | (exact congrArg Value.bool (hD.trans (by rw [Ent.ok_no hz84 hI.2 (.inl h89)];rfl)).symm) | (exact congrArg Value.bool (hD.trans (by rw [Ent.ok_no hz84 hI.2 (.inr (.inl h99))];rfl)).symm) | (exact congrArg Value.bool (hD.trans (by rw [Ent.ok_no hz84 hI.2 (.inr (.inr (by omega)))];rfl)).symm))
     ·trivial
     ·exact hA.keep (m:=[]) (Y:=[]) rfl
    intro h89
    replace h89:=nF h89
    have hgi:=Ent.good_idx h89
    (try dsimp only at hgi)
    refine HO_fieldAddr (r:=0) rfl rfl rfl Tryz.underlying70 rfl Tryz.sizeOf3 rfl ?_
    refine HO_load1 (i:=0) (j:=0) rfl rfl rfl Tryz.isAgg3 rfl (.loc _ _ _) rfl rfl ?_
    refine HO_fieldAddr (r:=4) rfl rfl rfl Tryz.underlying36 rfl Tryz.sizeOf3 rfl ?_
    refine HO_load1 (i:=3) (j:=4) rfl rfl rfl Tryz.isAgg3 rfl (.loc _ _ _) rfl rfl ?_
    refine HO_bin rfl rfl rfl rfl (bin_sub ?_ ?_) ?_
    ·omega
    ·omega
    refine HO_move rfl rfl rfl ?_
    refine HO_bin rfl rfl rfl rfl (bin_add ?_ ?_) ?_
    ·omega
    ·omega
    refine HO_bin rfl rfl rfl rfl bin_neq ?_
    refine HO_pick_f rfl rfl rfl rfl ?_
    refine HO_move rfl rfl rfl ?_
    refine HO_split (d:=99) rfl ?_ ?_
    ·intro h99
     replace h99:=dT h99
     iterate 5 refine HO_no rfl rfl rfl ?_
     refine HO_pick_t rfl rfl rfl rfl ?_
     refine HO_nil ?_
     refine H_env (ρ':=[(105,_),(1,_),(79,_),(80,_),(81,_)]) ⟨rfl,rfl,rfl,rfl,rfl,trivial⟩ ?_
     refine H_world (kp [nn,nn,nn,yy,yy,yy,yy,yy] [_,_,_,_,_] rfl) ?_
     refine H_cond rfl (fun _ => ?_) (fun h => nomatch h)
     refine H_seq ?_
     refine H_region (l:=[_]) rfl ?_
     refine HO_assign rfl rfl rfl ?_
     refine HO_nil ?_
     refine H_env (ρ':=[(2,_)]) ⟨rfl,trivial⟩ ?_
     refine H_world (kp [nn,nn,nn,nn,nn] [] rfl) ?_
     refine H_ret1 Tryz.results24 (.tmp rfl) (fun w hA => ⟨(),congrArg Ending.returned ?_,?_,?_⟩)
     ·(first | (exact congrArg Value.bool (hD.trans (by rw [Ent.ok_no hz84 hI.2 (.inl h89)];rfl)).symm) | (exact congrArg Value.bool (hD.trans (by rw [Ent.ok_no hz84 hI.2 (.inr (.inl h99))];rfl)).symm) | (exact congrArg Value.bool (hD.trans (by rw [Ent.ok_no hz84 hI.2 (.inr (.inr (by omega)))];rfl)).symm))
     ·trivial
     ·exact hA.keep (m:=[]) (Y:=[]) rfl
    intro h99
    replace h99:=dF h99
    refine HO_fieldAddr (r:=1) rfl rfl rfl Tryz.underlying70 rfl Tryz.sizeOf3 rfl ?_
    refine HO_load1 (i:=0) (j:=1) rfl rfl rfl Tryz.isAgg3 rfl (.loc _ _ _) rfl rfl ?_
    refine HO_fieldAddr (r:=3) rfl rfl rfl Tryz.underlying36 rfl Tryz.sizeOf3 rfl ?_
    refine HO_load1 (i:=3) (j:=3) rfl rfl rfl Tryz.isAgg3 rfl (.loc _ _ _) rfl rfl ?_
    refine HO_bin rfl rfl rfl rfl bin_gtr ?_
    refine HO_pick_f rfl rfl rfl rfl ?_
    refine HO_nil ?_
    refine H_env (ρ':=[(105,_),(1,_),(79,_),(80,_),(81,_)]) ⟨rfl,rfl,rfl,rfl,rfl,trivial⟩ ?_
    refine H_world (kp [nn,nn,nn,yy,yy,yy,yy,yy] [_,_,_,_,_] rfl) ?_
    refine H_cond rfl ?_ ?_
    ·intro h105
     replace h105:=dT h105
     refine H_seq ?_
     refine H_region (l:=[_]) rfl ?_
     refine HO_assign rfl rfl rfl ?_
     refine HO_nil ?_
     refine H_env (ρ':=[(2,_)]) ⟨rfl,trivial⟩ ?_
     refine H_world (kp [nn,nn,nn,nn,nn] [] rfl) ?_
     refine H_ret1 Tryz.results24 (.tmp rfl) (fun w hA => ⟨(),congrArg Ending.returned ?_,?_,?_⟩)
     ·(first | (exact congrArg Value.bool (hD.trans (by rw [Ent.ok_no hz84 hI.2 (.inl h89)];rfl)).symm) | (exact congrArg Value.bool (hD.trans (by rw [Ent.ok_no hz84 hI.2 (.inr (.inl h99))];rfl)).symm) | (exact congrArg Value.bool (hD.trans (by rw [Ent.ok_no hz84 hI.2 (.inr (.inr (by omega)))];rfl)).symm))
     ·trivial
     ·exact hA.keep (m:=[]) (Y:=[]) rfl
    intro h105
    replace h105:=dF h105
    refine H_skip ?_
    refine H_blk ?_
    refine H_region (l:=[_,_]) rfl ?_
    refine HO_bin rfl rfl rfl rfl (bin_add ?_ ?_) ?_
    ·omega
    ·omega
    refine HO_move rfl rfl rfl ?_
    refine HO_nil ?_
    refine H_env (ρ':=[(81,_),(1,_),(79,_),(80,_)]) ⟨rfl,rfl,rfl,rfl,trivial⟩ ?_
    refine H_inv (fun a w hf hA => ⟨i + 1,?_,?_,hf.sub ?_,?_⟩)
    ·exact ⟨by omega,Ent.ok_next hz84 hI.2 h89 (by omega) (by omega)⟩
    ·(try dsimp only);omega
    ·exact ⟨rfl,rfl,rfl,rfl,trivial⟩
    ·exact hA.only (is:=[0,1,2,3,4]) (Z:=[]) rfl
   intro h82
   replace h82:=dF h82
   refine H_exit rfl ?_
   refine H_seq ?_
   refine H_seq ?_
   have hok:=Ent.ok_end hI.2 (by omega)
   refine H_region (l:=[_,_,_]) rfl ?_
   refine HO_fieldAddr (r:=0) rfl rfl rfl Tryz.underlying36 rfl Tryz.sizeOf3 rfl ?_
   refine HO_load1 (i:=0) (j:=0) rfl rfl rfl Tryz.isAgg3 rfl (.loc _ _ _) rfl rfl ?_
   refine HO_bin rfl rfl rfl rfl bin_eql ?_
   refine HO_nil ?_
   refine H_env (ρ':=[(109,_),(1,_)]) ⟨rfl,rfl,trivial⟩ ?_
   refine H_cond rfl ?_ ?_
   ·intro h109
    replace h109:=dT h109
    refine H_seq ?_
    refine H_region (l:=[_,_,_,_]) rfl ?_
    refine HO_fieldAddr (r:=11) rfl rfl rfl Tryz.underlying36 rfl Tryz.sizeOf34 rfl ?_
    refine HO_loadA (i:=0) (us:=[_,_,_,_,_,_,_,_,_,_,_]) (cs:=[_,_,_,_,_]) (ts:=[]) rfl rfl rfl Tryz.isAgg34 Tryz.sizeOf34 rfl (.loc _ _ _) rfl rfl rfl rfl ?_
    refine HO_dup (i:=2) rfl rfl ?_
    refine HO_dup (i:=4) rfl rfl ?_
    refine HO_dup (i:=6) rfl rfl ?_
    refine HO_call (first:=[]) (capt:=[]) (is:=[0,0,0]) (R:=[_,_,_,_,_]) rfl rfl rfl rfl rfl Tryz.call44 rfl (rgoodsnap_spec _ _ _ _ _ _ _ _ _ _ _) ?_
    intro y112 hy112
    clear y112 hy112
    refine HO_assign rfl rfl rfl ?_
    refine HO_nil ?_
    refine H_env (ρ':=[(2,_)]) ⟨rfl,trivial⟩ ?_
    refine H_world (kp [nn,nn,nn,nn,nn] [] rfl) ?_
    refine H_ret1 Tryz.results24 (.tmp rfl) (fun w hA => ⟨(),congrArg Ending.returned ?_,?_,?_⟩)
    ·(exact congrArg Value.bool (hD.trans (by rw [hok,Bool.true_and,if_pos h109])).symm)
    ·trivial
    ·exact hA.keep (m:=[]) (Y:=[]) rfl
   intro h109
   replace h109:=dF h109
   refine H_skip ?_
   refine H_seq ?_
   refine H_region (l:=[_,_,_,_,_]) rfl ?_
   refine HO_fieldAddr (r:=11) rfl rfl rfl Tryz.underlying36 rfl Tryz.sizeOf34 rfl ?_
   refine HO_loadA (i:=0) (us:=[_,_,_,_,_,_,_,_,_,_,_]) (cs:=[_,_,_,_,_]) (ts:=[]) rfl rfl rfl Tryz.isAgg34 Tryz.sizeOf34 rfl (.loc _ _ _) rfl rfl rfl rfl ?_
   refine HO_build (xo:=[]) (vs:=[]) rfl rfl rfl rfl (bd34__) ?_
   refine HO_nilDat kInt ?_
   refine HO_nilDat kInt ?_
   refine HO_nilDat kByte ?_
   refine HO_dup (i:=5) rfl rfl ?_
   refine HO_dup (i:=7) rfl rfl ?_
   refine HO_dup (i:=9) rfl rfl ?_
   refine HO_dup (i:=5) rfl rfl ?_
   refine HO_dup (i:=5) rfl rfl ?_
   refine HO_dup (i:=5) rfl rfl ?_
   refine HO_call (first:=[]) (capt:=[]) (is:=[0,0,0,0,0,0]) (R:=[_,_,_,_,_,_,_,_]) rfl rfl rfl rfl rfl Tryz.call35 rfl (rsamesnap_spec _ _ _ _ _ _ _ _ _ _ _ _ _ _ _ _ _ _ _ _ _ _) ?_
   intro y116 hy116
   clear y116 hy116
   refine HO_assign rfl rfl rfl ?_
   refine HO_nil ?_
   refine H_env (ρ':=[(2,_)]) ⟨rfl,trivial⟩ ?_
   refine H_world (kp [nn,nn,nn,nn,nn,nn,nn,nn] [] rfl) ?_
   refine H_ret1 Tryz.results24 (.tmp rfl) (fun w hA => ⟨(),congrArg Ending.returned ?_,?_,?_⟩)
   ·(exact congrArg Value.bool (hD.trans (by rw [hok,Bool.true_and,if_neg h109];exact (Ent.emptyS_eq _).symm)).symm)
   ·trivial
   ·exact hA.keep (m:=[]) (Y:=[]) rfl
 intro h72
 replace h72:=dF h72
 iterate 3 refine HO_no rfl rfl rfl ?_
 iterate 2 refine HO_pick_f rfl rfl rfl rfl ?_
 refine HO_nil ?_
 refine H_env (ρ':=[(77,_),(1,_)]) ⟨rfl,rfl,trivial⟩ ?_
 refine H_cond rfl (fun h => nomatch h) (fun _ => ?_)
 refine H_skip ?_
 refine H_seq ?_
 refine H_seq ?_
 have hD:=Ent.goodMsg_at (m:=⟨mk,mf,mt,me,mi,ml,mc,mr,rj,hi,es,⟨ix,te,⟨vo,le⟩,da⟩⟩) (by dsimp only;omega)
 dsimp only at hD
 refine H_region (l:=[_,_,_,_]) rfl ?_
 refine HO_fieldAddr (r:=10) rfl rfl rfl Tryz.underlying36 rfl Tryz.sizeOf28 rfl ?_
 refine HO_load1 (i:=0) (j:=10) rfl rfl rfl Tryz.isAgg28 rfl (.loc _ _ _) rfl rfl ?_
 refine HO_bi rfl rfl rfl (bi_len_sl Tryz.underlying28) ?_
 refine HO_move rfl rfl rfl ?_
 refine HO_nil ?_
 refine H_env (ρ':=[(81,_),(80,_),(79,_),(1,_)]) ⟨rfl,rfl,rfl,rfl,trivial⟩ ?_
 refine H_block ?_
 refine H_loop (σ:=Nat) (fun s => s≤es.length∧Ent.okEnts mi me 0 es = Ent.okEnts mi me s (es.drop s)) (fun s => [(1,.pointer (some ⟨g1,0,none⟩)),(79,.slice a9 (es.length) c9),(80,.int .i64 ((es.length : Int))),(81,.int .i64 ((s : Int)))]) (fun s => Asn w0 ok0 M0 [.loc g1 [.int .i64 (mk),.int .i64 (mf),.int .i64 (mt),.int .i64 (me),.int .i64 (mi),.int .i64 (ml),.int .i64 (mc),.int .i64 (mr),.bool (rj),.int .i64 (hi),.slice a9 (es.length) c9,.int .i64 (ix),.int .i64 (te),.slice a1 (vo.length) c1,.slice a2 (le.length) c2,.slice a3 (da.length) c3] 36,.dat kEnt.sl (es) [.slice a9 (es.length) c9],.dat kInt.sl (vo) [.slice a1 (vo.length) c1],.dat kInt.sl (le) [.slice a2 (le.length) c2],.dat kByte.sl (da) [.slice a3 (da.length) c3]]) (fun s => es.length - s) 0 ?_ ?_ ?_ ?_
 ·exact ⟨Nat.zero_le _,rfl⟩
 ·exact ⟨rfl,rfl,rfl,rfl,trivial⟩
 ·intro w hA
  exact hA.only (is:=[0,1,2,3,4]) (Z:=[]) rfl
 ·intro i hI
  (try dsimp only at hI ⊢)
  refine H_seq ?_
  refine H_region (l:=[_]) rfl ?_
  refine HO_bin rfl rfl rfl rfl bin_lss ?_
  refine HO_nil ?_
  refine H_seq ?_
  refine H_cond rfl ?_ ?_
  ·intro h82
   replace h82:=dT h82
   refine H_skip ?_
   refine H_seq ?_
   refine H_block ?_
   refine H_seq ?_
   refine H_region (l:=[_,_,_,_,_,_]) rfl ?_
   refine HO_move rfl rfl rfl ?_
   refine HO_indexAddr open_Ent (i:=1) rfl rfl rfl rfl rfl Tryz.underlying28 Tryz.sizeOf70 rfl ?_ ?_
   ·omega
   intro b84 o84 z84 y84 hz84 hI84
   (try simp only [BIG] at hI84)
   refine HO_loadA (i:=0) (us:=[]) (cs:=[_,_,_,_,_,_,_,_,_,_,_,_,_]) (ts:=[]) rfl rfl rfl Tryz.isAgg70 Tryz.sizeOf70 rfl (.elem _ _ _) rfl rfl rfl rfl ?_
   refine HO_alloc (cs:=[_,_,_,_,_,_,_,_,_,_,_,_,_]) rfl rfl Tryz.zeroValue70 rfl ?_
   intro g4
   refine HO_assign rfl rfl rfl ?_
   refine HO_store (i:=0) (j:=0) (us:=[]) (old:=[_,_,_,_,_,_,_,_,_,_,_,_,_]) (ts:=[]) (cs:=[_,_,_,_,_,_,_,_,_,_,_,_,_]) (R:=[_,_,_,_,_,_,_,_]) (new:=[_,_,_,_,_,_,_,_,_,_,_,_,_]) rfl rfl rfl Tryz.sizeOf70 rfl (by simp [Value.oneCell']) rfl rfl rfl rfl rfl rfl ?_
   refine HO_nil ?_
   refine H_env (ρ':=[(3,_),(4,_),(1,_),(79,_),(80,_),(81,_)]) ⟨rfl,rfl,rfl,rfl,rfl,rfl,trivial⟩ ?_
   refine H_world (kp [yy,nn,yy,yy,yy,yy,yy,yy,yy] [_,_,_,_,_,_,_,_] rfl) ?_
   refine H_seq ?_
   refine H_region (l:=[_,_,_,_,_,_,_,_,_,_,_,_,_,_,_,_,_,_,_,_]) rfl ?_
   refine HO_loadA (i:=0) (us:=[]) (cs:=[_,_,_,_,_,_,_,_,_,_,_,_,_]) (ts:=[]) rfl rfl rfl Tryz.isAgg70 Tryz.sizeOf70 rfl (.loc _ _ _) rfl rfl rfl rfl ?_
   refine HO_dup (i:=1) rfl rfl ?_
   refine HO_dup (i:=3) rfl rfl ?_
   refine HO_call (first:=[]) (capt:=[]) (is:=[0,0]) (R:=[_,_,_,_,_,_,_,_]) rfl rfl rfl rfl rfl Tryz.call43 rfl (rentgood_spec _ _ _ _ _ _ _ _ _ _ _ _ _ _ _ _ _ ?_ ?_) ?_
   ·(dsimp only [BIG];omega)
   ·(dsimp only [BIG];omega)
   intro y87 hy87
   clear y87 hy87
   refine HO_set (v':=.bool (Ent.good z84)) 87 rfl (by rfl) ?_
   refine HO_not rfl rfl rfl ?_
   refine HO_move rfl rfl rfl ?_
   refine HO_split (d:=89) rfl ?_ ?_
   ·intro h89
    replace h89:=nT h89
    iterate 8 refine HO_no rfl rfl rfl ?_
    refine HO_pick_t rfl rfl rfl rfl ?_
    refine HO_move rfl rfl rfl ?_
    iterate 5 refine HO_no rfl rfl rfl ?_
    refine HO_pick_t rfl rfl rfl rfl ?_
    refine HO_nil ?_
    refine H_env (ρ':=[(105,_),(1,_),(79,_),(80,_),(81,_)]) ⟨rfl,rfl,rfl,rfl,rfl,trivial⟩ ?_
    refine H_world (kp [nn,nn,nn,yy,yy,yy,yy,yy] [_,_,_,_,_] rfl) ?_
    refine H_cond rfl (fun _ => ?_) (fun h => nomatch h)
    refine H_seq ?_
    refine H_region (l:=[_]) rfl ?_
    refine HO_assign rfl rfl rfl ?_
    refine HO_nil ?_
    refine H_env (ρ':=[(2,_)]) ⟨rfl,trivial⟩ ?_
    refine H_world (kp [nn,nn,nn,nn,nn] [] rfl) ?_
    refine H_ret1 Tryz.results24 (.tmp rfl) (fun w hA => ⟨(),congrArg Ending.returned ?_,?_,?_⟩)
    ·(first | (exact congrArg Value.bool (hD.trans (by rw [Ent.ok_no hz84 hI.2 (.inl h89)];rfl)).symm) | (exact congrArg Value.bool (hD.trans (by rw [Ent.ok_no hz84 hI.2 (.inr (.inl h99))];rfl)).symm) | (exact congrArg Value.bool (hD.trans (by rw [Ent.ok_no hz84 hI.2 (.inr (.inr (by omega)))];rfl)).symm))
    ·trivial
    ·exact hA.keep (m:=[]) (Y:=[]) rfl
   intro h89
   replace h89:=nF h89
   have hgi:=Ent.good_idx h89
   (try dsimp only at hgi)
   refine HO_fieldAddr (r:=0) rfl rfl rfl Tryz.underlying70 rfl Tryz.sizeOf3 rfl ?_
   refine HO_load1 (i:=0) (j:=0) rfl rfl rfl Tryz.isAgg3 rfl (.loc _ _ _) rfl rfl ?_
   refine HO_fieldAddr (r:=4) rfl rfl rfl Tryz.underlying36 rfl Tryz.sizeOf3 rfl ?_
   refine HO_load1 (i:=3) (j:=4) rfl rfl rfl Tryz.isAgg3 rfl (.loc _ _ _) rfl rfl ?_
   refine HO_bin rfl rfl rfl rfl (bin_sub ?_ ?_) ?_
   ·omega
   ·omega
   refine HO_move rfl rfl rfl ?_
   refine HO_bin rfl rfl rfl rfl (bin_add ?_ ?_) ?_
   ·omega
   ·omega
   refine HO_bin rfl rfl rfl rfl bin_neq ?_
   refine HO_pick_f rfl rfl rfl rfl ?_
   refine HO_move rfl rfl rfl ?_
   refine HO_split (d:=99) rfl ?_ ?_
   ·intro h99
    replace h99:=dT h99
    iterate 5 refine HO_no rfl rfl rfl ?_
    refine HO_pick_t rfl rfl rfl rfl ?_
    refine HO_nil ?_
    refine H_env (ρ':=[(105,_),(1,_),(79,_),(80,_),(81,_)]) ⟨rfl,rfl,rfl,rfl,rfl,trivial⟩ ?_
    refine H_world (kp [nn,nn,nn,yy,yy,yy,yy,yy] [_,_,_,_,_] rfl) ?_
    refine H_cond rfl (fun _ => ?_) (fun h => nomatch h)
    refine H_seq ?_
    refine H_region (l:=[_]) rfl ?_
    refine HO_assign rfl rfl rfl ?_
    refine HO_nil ?_
    refine H_env (ρ':=[(2,_)]) ⟨rfl,trivial⟩ ?_
    refine H_world (kp [nn,nn,nn,nn,nn] [] rfl) ?_
    refine H_ret1 Tryz.results24 (.tmp rfl) (fun w hA => ⟨(),congrArg Ending.returned ?_,?_,?_⟩)
    ·(first | (exact congrArg Value.bool (hD.trans (by rw [Ent.ok_no hz84 hI.2 (.inl h89)];rfl)).symm) | (exact congrArg Value.bool (hD.trans (by rw [Ent.ok_no hz84 hI.2 (.inr (.inl h99))];rfl)).symm) | (exact congrArg Value.bool (hD.trans (by rw [Ent.ok_no hz84 hI.2 (.inr (.inr (by omega)))];rfl)).symm))
    ·trivial
    ·exact hA.keep (m:=[]) (Y:=[]) rfl
   intro h99
   replace h99:=dF h99
   refine HO_fieldAddr (r:=1) rfl rfl rfl Tryz.underlying70 rfl Tryz.sizeOf3 rfl ?_
   refine HO_load1 (i:=0) (j:=1) rfl rfl rfl Tryz.isAgg3 rfl (.loc _ _ _) rfl rfl ?_
   refine HO_fieldAddr (r:=3) rfl rfl rfl Tryz.underlying36 rfl Tryz.sizeOf3 rfl ?_
   refine HO_load1 (i:=3) (j:=3) rfl rfl rfl Tryz.isAgg3 rfl (.loc _ _ _) rfl rfl ?_
   refine HO_bin rfl rfl rfl rfl bin_gtr ?_
   refine HO_pick_f rfl rfl rfl rfl ?_
   refine HO_nil ?_
   refine H_env (ρ':=[(105,_),(1,_),(79,_),(80,_),(81,_)]) ⟨rfl,rfl,rfl,rfl,rfl,trivial⟩ ?_
   refine H_world (kp [nn,nn,nn,yy,yy,yy,yy,yy] [_,_,_,_,_] rfl) ?_
   refine H_cond rfl ?_ ?_
   ·intro h105
    replace h105:=dT h105
    refine H_seq ?_
    refine H_region (l:=[_]) rfl ?_
    refine HO_assign rfl rfl rfl ?_
    refine HO_nil ?_
    refine H_env (ρ':=[(2,_)]) ⟨rfl,trivial⟩ ?_
    refine H_world (kp [nn,nn,nn,nn,nn] [] rfl) ?_
    refine H_ret1 Tryz.results24 (.tmp rfl) (fun w hA => ⟨(),congrArg Ending.returned ?_,?_,?_⟩)
    ·(first | (exact congrArg Value.bool (hD.trans (by rw [Ent.ok_no hz84 hI.2 (.inl h89)];rfl)).symm) | (exact congrArg Value.bool (hD.trans (by rw [Ent.ok_no hz84 hI.2 (.inr (.inl h99))];rfl)).symm) | (exact congrArg Value.bool (hD.trans (by rw [Ent.ok_no hz84 hI.2 (.inr (.inr (by omega)))];rfl)).symm))
    ·trivial
    ·exact hA.keep (m:=[]) (Y:=[]) rfl
   intro h105
   replace h105:=dF h105
   refine H_skip ?_
   refine H_blk ?_
   refine H_region (l:=[_,_]) rfl ?_
   refine HO_bin rfl rfl rfl rfl (bin_add ?_ ?_) ?_
   ·omega
   ·omega
   refine HO_move rfl rfl rfl ?_
   refine HO_nil ?_
   refine H_env (ρ':=[(81,_),(1,_),(79,_),(80,_)]) ⟨rfl,rfl,rfl,rfl,trivial⟩ ?_
   refine H_inv (fun a w hf hA => ⟨i + 1,?_,?_,hf.sub ?_,?_⟩)
   ·exact ⟨by omega,Ent.ok_next hz84 hI.2 h89 (by omega) (by omega)⟩
   ·(try dsimp only);omega
   ·exact ⟨rfl,rfl,rfl,rfl,trivial⟩
   ·exact hA.only (is:=[0,1,2,3,4]) (Z:=[]) rfl
  intro h82
  replace h82:=dF h82
  refine H_exit rfl ?_
  refine H_seq ?_
  refine H_seq ?_
  have hok:=Ent.ok_end hI.2 (by omega)
  refine H_region (l:=[_,_,_]) rfl ?_
  refine HO_fieldAddr (r:=0) rfl rfl rfl Tryz.underlying36 rfl Tryz.sizeOf3 rfl ?_
  refine HO_load1 (i:=0) (j:=0) rfl rfl rfl Tryz.isAgg3 rfl (.loc _ _ _) rfl rfl ?_
  refine HO_bin rfl rfl rfl rfl bin_eql ?_
  refine HO_nil ?_
  refine H_env (ρ':=[(109,_),(1,_)]) ⟨rfl,rfl,trivial⟩ ?_
  refine H_cond rfl ?_ ?_
  ·intro h109
   replace h109:=dT h109
   refine H_seq ?_
   refine H_region (l:=[_,_,_,_]) rfl ?_
   refine HO_fieldAddr (r:=11) rfl rfl rfl Tryz.underlying36 rfl Tryz.sizeOf34 rfl ?_
   refine HO_loadA (i:=0) (us:=[_,_,_,_,_,_,_,_,_,_,_]) (cs:=[_,_,_,_,_]) (ts:=[]) rfl rfl rfl Tryz.isAgg34 Tryz.sizeOf34 rfl (.loc _ _ _) rfl rfl rfl rfl ?_
   refine HO_dup (i:=2) rfl rfl ?_
   refine HO_dup (i:=4) rfl rfl ?_
   refine HO_dup (i:=6) rfl rfl ?_
   refine HO_call (first:=[]) (capt:=[]) (is:=[0,0,0]) (R:=[_,_,_,_,_]) rfl rfl rfl rfl rfl Tryz.call44 rfl (rgoodsnap_spec _ _ _ _ _ _ _ _ _ _ _) ?_
   intro y112 hy112
   clear y112 hy112
   refine HO_assign rfl rfl rfl ?_
   refine HO_nil ?_
   refine H_env (ρ':=[(2,_)]) ⟨rfl,trivial⟩ ?_
   refine H_world (kp [nn,nn,nn,nn,nn] [] rfl) ?_
   refine H_ret1 Tryz.results24 (.tmp rfl) (fun w hA => ⟨(),congrArg Ending.returned ?_,?_,?_⟩)
   ·(exact congrArg Value.bool (hD.trans (by rw [hok,Bool.true_and,if_pos h109])).symm)
   ·trivial
   ·exact hA.keep (m:=[]) (Y:=[]) rfl
  intro h109
  replace h109:=dF h109
  refine H_skip ?_
  refine H_seq ?_
  refine H_region (l:=[_,_,_,_,_]) rfl ?_
  refine HO_fieldAddr (r:=11) rfl rfl rfl Tryz.underlying36 rfl Tryz.sizeOf34 rfl ?_
  refine HO_loadA (i:=0) (us:=[_,_,_,_,_,_,_,_,_,_,_]) (cs:=[_,_,_,_,_]) (ts:=[]) rfl rfl rfl Tryz.isAgg34 Tryz.sizeOf34 rfl (.loc _ _ _) rfl rfl rfl rfl ?_
  refine HO_build (xo:=[]) (vs:=[]) rfl rfl rfl rfl (bd34__) ?_
  refine HO_nilDat kInt ?_
  refine HO_nilDat kInt ?_
  refine HO_nilDat kByte ?_
  refine HO_dup (i:=5) rfl rfl ?_
  refine HO_dup (i:=7) rfl rfl ?_
  refine HO_dup (i:=9) rfl rfl ?_
  refine HO_dup (i:=5) rfl rfl ?_
  refine HO_dup (i:=5) rfl rfl ?_
  refine HO_dup (i:=5) rfl rfl ?_
  refine HO_call (first:=[]) (capt:=[]) (is:=[0,0,0,0,0,0]) (R:=[_,_,_,_,_,_,_,_]) rfl rfl rfl rfl rfl Tryz.call35 rfl (rsamesnap_spec _ _ _ _ _ _ _ _ _ _ _ _ _ _ _ _ _ _ _ _ _ _) ?_
  intro y116 hy116
  clear y116 hy116
  refine HO_assign rfl rfl rfl ?_
  refine HO_nil ?_
  refine H_env (ρ':=[(2,_)]) ⟨rfl,trivial⟩ ?_
  refine H_world (kp [nn,nn,nn,nn,nn,nn,nn,nn] [] rfl) ?_
  refine H_ret1 Tryz.results24 (.tmp rfl) (fun w hA => ⟨(),congrArg Ending.returned ?_,?_,?_⟩)
  ·(exact congrArg Value.bool (hD.trans (by rw [hok,Bool.true_and,if_neg h109];exact (Ent.emptyS_eq _).symm)).symm)
  ·trivial
  ·exact hA.keep (m:=[]) (Y:=[]) rfl
end Go.Wk
